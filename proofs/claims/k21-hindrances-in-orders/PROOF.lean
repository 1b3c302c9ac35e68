import PyProof.Rows.All
import Wide.All
import OpenK.AllK
import Wide.FinOn
import HandS.ForMost
import HandS.Wide
import HandS.EndBits
import HandS.Defaults
import HandS.Lambda
import HandS.EndTab
import KE.Datum
import KE.DatumIndex
import HandS.IsInst
import HandS.Style
import HandS.ClsMeth
import HandS.Codes
import HandS.Rev
import HandS.Nested
import HandS.Conv
import HandS.SortKw
import KE.SortKeyHeap
import HandS.SetFor
import HandS.Strs
import HandS.MakeKw
import HandS.Zip
import HandS.TupAny
import HandS.SortInts
import KE.DataCmp
import KE.SortData
import HandS.ExcValue
import HandS.ExcIs
import HandS.ExcField
import HandS.ExcInit
import HandS.ExcOwn
import KE.GoesMore
import KE.OsRunLaw
import PySem.Challenge.RW_voucherstack_k21_hindrances_in_orders
noncomputable section
set_option Elab.async false
set_option linter.all false
set_option maxRecDepth 100000
namespace T
open PySem PySem.Spec PyProof.Rows L2

/-! the module's facts; what is true of a value in the part of the heap that stays as it is -/
structure Gb where
  K : PySem.W.Frag
  mg : Str → Option Value
abbrev gb (X : Cx) : Gb := ⟨X.K, X.mg⟩
structure PR where
  p : Hp → V → Prop
  mono : ∀ {I I' : Hp} {v : V}, Same I I' → p I v → p I' v
structure PL where
  p : Hp → List V → Prop
  mono : ∀ {I I' : Hp} {vs : List V}, Same I I' → p I vs → p I' vs
class Py (α : Type) where
  r : Gb → α → PR

theorem seqT {K : PySem.W.Frag} {H H' : Hp} {a : Addr} {xs : List V} (e : Same H H') (h : SqT K H a xs) : SqT K H' a xs := by
  rcases h with (h | ⟨o, h⟩) | h
  · exact .inl (.inl (e _ _ h))
  · exact .inl (.inr ⟨o, e _ _ h⟩)
  · exact .inr h
theorem same_new {H : Hp} {p : Addr} {o : HO} (h : H p = none) : Same H (upd H p o) := fun b x e => by
  rw [upd_ne (ne_of_none e h)]
  exact e

/-- items, one by one; no more than a list may hold -/
def rl {α : Type} [Py α] (g : Gb) (as : List α) : PL where
  p := fun I vs => as.length ≤ sizeLine ∧ Paired (fun a v => (Py.r g a).p I v) as vs
  mono := fun s h => ⟨h.1, L2.Paired.mapP h.2 fun _ _ q => (Py.r g _).mono s q⟩
theorem rl_len {α : Type} [Py α] {g : Gb} {as : List α} {I : Hp} {vs : List V} (h : (rl g as).p I vs) : vs.length = as.length := (Paired.length h.2).symm

section
variable {α β γ δ : Type} [Py α] [Py β] [Py γ] [Py δ]
instance : Py Int := ⟨fun _ i => ⟨fun _ v => v = .int i, fun _ h => h⟩⟩
instance : Py Bool := ⟨fun _ i => ⟨fun _ v => v = .bl i, fun _ h => h⟩⟩
instance : Py Str := ⟨fun _ i => ⟨fun _ v => v = .str i, fun _ h => h⟩⟩
instance : Py Unit := ⟨fun _ _ => ⟨fun _ v => v = .non, fun _ h => h⟩⟩
def rOpt (g : Gb) : Option α → PR
  | none => ⟨fun _ v => v = .non, fun _ h => h⟩
  | some a => Py.r g a
instance : Py (Option α) := ⟨rOpt⟩
def rLst (g : Gb) (as : List α) : PR where
  p := fun I v => ∃ l vs, v = .ref l ∧ SqL g.K I l vs ∧ (rl g as).p I vs
  mono := fun s ⟨l, vs, e, h, q⟩ => ⟨l, vs, e, s.seq h, (rl g as).mono s q⟩
instance : Py (List α) := ⟨rLst⟩
end
structure T2 (α β : Type) where
  x0 : α
  x1 : β
  deriving DecidableEq
structure T3 (α β γ : Type) where
  x0 : α
  x1 : β
  x2 : γ
  deriving DecidableEq
structure T4 (α β γ δ : Type) where
  x0 : α
  x1 : β
  x2 : γ
  x3 : δ
  deriving DecidableEq
section
variable {α β γ δ : Type} [Py α] [Py β] [Py γ] [Py δ]
instance : Py (T2 α β) := ⟨fun g t => ⟨fun I v => ∃ p a b, v = .ref p ∧ SqT g.K I p [a, b] ∧ (Py.r g t.x0).p I a ∧ (Py.r g t.x1).p I b,
  fun s ⟨p, a, b, e, h, q1, q2⟩ => ⟨p, a, b, e, seqT s h, (Py.r g _).mono s q1, (Py.r g _).mono s q2⟩⟩⟩
instance : Py (T3 α β γ) := ⟨fun g t => ⟨fun I v => ∃ p a b c, v = .ref p ∧ SqT g.K I p [a, b, c] ∧ (Py.r g t.x0).p I a ∧ (Py.r g t.x1).p I b ∧ (Py.r g t.x2).p I c,
  fun s ⟨p, a, b, c, e, h, q1, q2, q3⟩ => ⟨p, a, b, c, e, seqT s h, (Py.r g _).mono s q1, (Py.r g _).mono s q2, (Py.r g _).mono s q3⟩⟩⟩
instance : Py (T4 α β γ δ) := ⟨fun g t => ⟨fun I v => ∃ p a b c d, v = .ref p ∧ SqT g.K I p [a, b, c, d] ∧ (Py.r g t.x0).p I a ∧ (Py.r g t.x1).p I b ∧ (Py.r g t.x2).p I c ∧ (Py.r g t.x3).p I d,
  fun s ⟨p, a, b, c, d, e, h, q1, q2, q3, q4⟩ => ⟨p, a, b, c, d, e, seqT s h, (Py.r g _).mono s q1, (Py.r g _).mono s q2, (Py.r g _).mono s q3, (Py.r g _).mono s q4⟩⟩⟩
end

/-- a thing owned: by the part that stays, a fragment of the heap of its own, and its value -/
structure OR where
  p : Hp → Hp → V → Prop
  mono : ∀ {I I' F : Hp} {v : V}, Same I I' → p I F v → p I' F v
/-! kinds of values: a thing that stays (im), a new list of one's own (fr), a list of the caller's (bw), a list as it stands now (rd); an owned thing (ow), the caller's (bo), as it stands now (ro) -/
inductive RK where
  | im (p : PR) | fr (q : PL) | bw (q : PL) | rd (q : PL) | ow (o : OR)
def RK.holds (g : Gb) : RK → Hp → V → Hp → Hp → Prop
  | .im p, _, v, I', _ => p.p I' v
  | .fr q, H, v, I', H' => ∃ l vs, v = .ref l ∧ H l = none ∧ I' l = none ∧ H' l = some (.lst vs) ∧ q.p I' vs
  | .bw q, H, v, I', _ => ∃ l vs, v = .ref l ∧ SqL g.K H l vs ∧ q.p I' vs
  | .rd q, _, v, I', H' => ∃ l vs, v = .ref l ∧ SqL g.K H' l vs ∧ q.p I' vs
  | .ow o, H, v, I', H' => ∃ F : Hp, (∀ a, F a ≠ none → H a = none ∧ I' a = none) ∧ Same F H' ∧ o.p I' F v
/-- two parts of the heap together, the second one ahead -/
def Un (I F : Hp) : Hp := fun a => match F a with
  | some o => some o
  | none => I a
theorem un_none {I F : Hp} {a : Addr} (h : F a = none) : Un I F a = I a := by unfold Un; rw [h]
theorem un_r {I F : Hp} {a : Addr} {o : HO} (h : F a = some o) : Un I F a = some o := by unfold Un; rw [h]
theorem un_some {I F : Hp} {a : Addr} {o : HO} (h : Un I F a = some o) : F a = some o ∨ (F a = none ∧ I a = some o) := by
  unfold Un at h
  cases e : F a with
  | none => rw [e] at h; exact .inr ⟨rfl, h⟩
  | some u => rw [e] at h; exact .inl h
theorem un_l {I F : Hp} (h : ∀ a, F a ≠ none → I a = none) : Same I (Un I F) := fun a o e => by
  rw [un_none]
  · exact e
  · cases q : F a with
    | none => rfl
    | some u =>
      have := h a (by rw [q]; simp)
      rw [this] at e; cases e
theorem un_s {I F : Hp} : Same F (Un I F) := fun a o e => un_r e
/-- the tables of code objects that may grow, with the names of what they hold -/
class TabsC where
  T : List (Addr × Str)
variable [TabsC]
def nt : HO → Bool
  | .tbl _ => false
  | _ => true
def Tbs (H : Hp) : Prop := ∀ p ∈ TabsC.T, LamX.TabS H p.1 p.2
/-- the same heap but for more objects, and tables that grew -/
structure SW (H H' : Hp) : Prop where
  k : ∀ b o, H b = some o → H' b = some o ∨ (nt o = false ∧ ∃ p ∈ TabsC.T, p.1 = b)
  f : ∀ b, H' b = none → H b = none
  t : Tbs H → Tbs H'
theorem SW.get {H H' : Hp} (s : SW H H') (b : Addr) (o : HO) (e : H b = some o) (hn : nt o = true := by rfl) : H' b = some o := by
  rcases s.k b o e with h | ⟨h, _⟩
  · exact h
  · rw [hn] at h; cases h
theorem SW.of {H H' : Hp} (s : Same H H') : SW H H' := ⟨fun b o e => .inl (s b o e), fun b e => s.free e, fun t p hp => (t p hp).ext s⟩
instance {H H' : Hp} : Coe (Same H H') (SW H H') := ⟨SW.of⟩
theorem SW.refl (H : Hp) : SW H H := SW.of (Same.refl H)
theorem SW.free {H H' : Hp} (s : SW H H') {l : Addr} (h : H' l = none) : H l = none := s.f l h
theorem SW.trans {H H1 H2 : Hp} (a : SW H H1) (b : SW H1 H2) : SW H H2 := ⟨fun c o e => by
  rcases a.k c o e with h | h
  · exact b.k c o h
  · exact .inr h, fun c e => a.f c (b.f c e), fun t => b.t (a.t t)⟩
theorem SW.seq {K : PySem.W.Frag} {H H' : Hp} {a : Addr} {xs : List V} (e : SW H H') (h : SqL K H a xs) : SqL K H' a xs := by
  rcases h with (h | ⟨o, h⟩) | h
  · exact .inl (.inl (e.get _ _ h))
  · exact .inl (.inr ⟨o, e.get _ _ h⟩)
  · exact .inr h
theorem SW.at_ {H H' : Hp} (s : SW H H') {b : Addr} {o : HO} (e : H b = some o) (hT : ∀ p ∈ TabsC.T, p.1 ≠ b) : H' b = some o := by
  rcases s.k b o e with h | ⟨_, p, hp, h⟩
  · exact h
  · exact absurd h (hT p hp)
/-- a part of the heap without tables stays -/
theorem SW.part {F H H' : Hp} (s : SW H H') (h : Same F H) (hT : ∀ p ∈ TabsC.T, F p.1 = none) : Same F H' := fun a o e => s.at_ (h a o e) fun p hp z => by
  rw [← z, hT p hp] at e; cases e
theorem Tbs.ne {H : Hp} (t : Tbs H) {p : Addr × Str} (hp : p ∈ TabsC.T) : H p.1 ≠ none := by
  obtain ⟨ps, h, _⟩ := t p hp
  rw [h]; simp
def HasT (H : Hp) : Prop := ∀ p ∈ TabsC.T, H p.1 ≠ none
/-- the heap grows: I what stays as it is, H all -/
structure Ext (I H I' H' : Hp) : Prop where
  i : Same I I'
  h : SW H H'
  s : Same I' H'
  n : ∀ l, H l ≠ none → I l = none → I' l = none
theorem Ext.refl {I H : Hp} (s : Same I H) : Ext I H I H := ⟨Same.refl _, SW.refl _, s, fun _ _ h => h⟩
theorem Ext.trans {I H I1 H1 I2 H2 : Hp} (a : Ext I H I1 H1) (b : Ext I1 H1 I2 H2) : Ext I H I2 H2 :=
  ⟨a.i.trans b.i, a.h.trans b.h, b.s, fun l h1 h2 => b.n l (fun z => h1 (a.h.free z)) (a.n l h1 h2)⟩
theorem ne_of_some {H : Hp} {a : Addr} {o : HO} (h : H a = some o) : H a ≠ none := by rw [h]; simp
theorem same_ne {F H : Hp} (s : Same F H) {a : Addr} (h : F a ≠ none) : H a ≠ none := by
  cases e : F a with
  | none => exact absurd e h
  | some o => exact ne_of_some (s _ _ e)
theorem RK.ext {g : Gb} {k : RK} {H : Hp} {v : V} {I1 H1 I2 H2 : Hp} (h : RK.holds g k H v I1 H1) (x : Ext I1 H1 I2 H2) (hT : HasT H) : RK.holds g k H v I2 H2 := by
  cases k with
  | im p => exact p.mono x.i h
  | fr q =>
    obtain ⟨l, vs, e, h1, h2, h3, h4⟩ := h
    exact ⟨l, vs, e, h1, x.n l (by rw [h3]; simp) h2, x.h.get _ _ h3, q.mono x.i h4⟩
  | bw q =>
    obtain ⟨l, vs, e, h1, h4⟩ := h
    exact ⟨l, vs, e, h1, q.mono x.i h4⟩
  | rd q =>
    obtain ⟨l, vs, e, h1, h4⟩ := h
    exact ⟨l, vs, e, x.h.seq h1, q.mono x.i h4⟩
  | ow o =>
    obtain ⟨F, h1, h2, h3⟩ := h
    refine ⟨F, fun a ha => ⟨(h1 a ha).1, x.n a (same_ne h2 ha) (h1 a ha).2⟩, x.h.part h2 fun p hp => ?_, o.mono x.i h3⟩
    cases e : F p.1 with
    | none => rfl
    | some u => exact absurd (h1 p.1 (ne_of_some e)).1 (hT p hp)
/-- borrowed kinds are seen from where they are borrowed -/
def RK.isB : RK → Bool
  | .bw _ => true
  | _ => false
/-- seen from an earlier heap (of a borrowed list: no) -/
theorem RK.back {g : Gb} {k : RK} {H0 H : Hp} {v : V} {I' H' : Hp} (hb : k.isB = false) (s : SW H0 H) (h : RK.holds g k H v I' H') : RK.holds g k H0 v I' H' := by
  cases k with
  | im p => exact h
  | fr q =>
    obtain ⟨l, vs, e, h1, h2, h3, h4⟩ := h
    exact ⟨l, vs, e, s.free h1, h2, h3, h4⟩
  | bw q => cases hb
  | rd q => exact h
  | ow o =>
    obtain ⟨F, h1, h2, h3⟩ := h
    exact ⟨F, fun a ha => ⟨s.free (h1 a ha).1, (h1 a ha).2⟩, h2, h3⟩

/-! the state: what is known of each slot; slots of kinds fr, ow own a fragment -/
structure Bs where
  I : Hp
  H : Hp
abbrev SL := List (Option RK)
/-- a slot's value, F its own fragment -/
def RK.inS (g : Gb) : RK → Hp → V → Hp → Hp → Prop
  | .im p, _, v, I, _ => p.p I v
  | .fr q, _, v, I, F => ∃ l vs, v = .ref l ∧ F l = some (.lst vs) ∧ q.p I vs
  | .bw q, H, v, I, _ => ∃ l vs, v = .ref l ∧ SqL g.K H l vs ∧ q.p I vs
  | .rd _, _, _, _, _ => False
  | .ow o, _, v, I, F => o.p I F v
theorem RK.inS_mono {g : Gb} {k : RK} {H : Hp} {v : V} {I I' F : Hp} (s : Same I I') (h : RK.inS g k H v I F) : RK.inS g k H v I' F := by
  cases k with
  | im p => exact p.mono s h
  | fr q =>
    obtain ⟨l, vs, e, h3, h4⟩ := h
    exact ⟨l, vs, e, h3, q.mono s h4⟩
  | bw q =>
    obtain ⟨l, vs, e, h1, h4⟩ := h
    exact ⟨l, vs, e, h1, q.mono s h4⟩
  | rd q => exact h
  | ow o => exact o.mono s h
/-- the tables: known, none of what stays or is owned -/
structure TbH (BH I H : Hp) : Prop where
  t : Tbs H
  b : HasT BH
  i : ∀ p ∈ TabsC.T, I p.1 = none
def TbI (I H : Hp) : Prop := Tbs H ∧ ∀ p ∈ TabsC.T, I p.1 = none
theorem TbH.of {I H : Hp} (t : TbI I H) : TbH H I H := ⟨t.1, fun _ hp => t.1.ne hp, t.2⟩
theorem TbH.un {BH I H F : Hp} (t : TbH BH I H) (hF : ∀ p ∈ TabsC.T, F p.1 = none) : TbH BH (Un I F) H := ⟨t.t, t.b, fun p hp => by rw [un_none (hF p hp)]; exact t.i p hp⟩
theorem TbH.to {BH I H : Hp} (t : TbH BH I H) : TbI I H := ⟨t.t, t.i⟩
theorem Tbs.keep {H H' : Hp} (t : Tbs H) (hP : ∀ p ∈ TabsC.T, ∀ o, H p.1 = some o → H' p.1 = some o) (hx : ∀ a f, H a = some (.ext f) → H' a = some (.ext f)) : Tbs H' := fun p hp => by
  obtain ⟨ps, h1, h2, h3⟩ := t p hp
  refine ⟨ps, hP p hp _ h1, h2, fun pos cv hc => ?_⟩
  obtain ⟨c, e1, e2⟩ := h3 pos cv hc
  exact ⟨c, e1, hx _ _ e2⟩
/-- all of the base that was there still is -/
theorem SW.kept {BH H H' : Hp} (b : SW BH H) (t : Tbs H') (keep : ∀ a o o', BH a = some o → H a = some o' → H' a = some o') : SW BH H' := by
  refine ⟨fun a o e => ?_, fun a e => ?_, fun _ => t⟩
  · rcases b.k a o e with h | h
    · exact .inl (keep a o o e h)
    · exact .inr h
  · cases q : BH a with
    | none => rfl
    | some o =>
      cases q2 : H a with
      | none => rw [b.f a q2] at q; cases q
      | some o' => rw [keep a o o' q q2] at e; cases e
/-- a list that the base has not, written -/
theorem SW.put {H H' : Hp} {l : Addr} {ob : HO} {ws : List V} (s : SW H H') (h : H l = none) (h' : H' l = some (.lst ws)) : SW H (upd H' l ob) := by
  refine ⟨fun a o e => ?_, fun a e => ?_, fun t => (s.t t).keep (fun p hp o e => ?_) fun a f e => ?_⟩
  · rw [upd_ne (ne_of_none e h)]
    exact s.k a o e
  · by_cases ha : a = l
    · rw [ha]; exact h
    · rw [upd_ne ha] at e; exact s.f a e
  · rw [upd_ne (fun z => t.ne hp (by rw [z]; exact h))]; exact e
  · rw [upd_ne (fun z => by rw [z, h'] at e; cases e)]; exact e
theorem frag_noT {F H I : Hp} (hT : HasT H) (f : ∀ a, F a ≠ none → H a = none ∧ I a = none) : ∀ p ∈ TabsC.T, F p.1 = none := fun p hp => by
  cases e : F p.1 with
  | none => rfl
  | some u => exact absurd (f p.1 (ne_of_some e)).1 (hT p hp)
def nx : HO → Bool
  | .ext _ => false
  | _ => true
structure HoldF (g : Gb) (B : Bs) (S : SL) (σ : L2.St) (I H : Hp) (Φ : Nat → Hp) : Prop where
  len : σ.length = S.length
  sub : Same I H
  base : SW B.H H
  tb : TbH B.H I H
  at_ : ∀ (i : Nat) (k : RK), S[i]? = some (some k) → ∃ v, σ[i]? = some (some v) ∧ RK.inS g k B.H v I (Φ i)
  fr : ∀ (i : Nat) (a : Addr) (o : HO), Φ i a = some o → H a = some o ∧ I a = none ∧ B.H a = none
  dj : ∀ (i j : Nat) (a : Addr), Φ i a ≠ none → Φ j a ≠ none → i = j
def Hold (g : Gb) (B : Bs) (S : SL) (σ : L2.St) (I H : Hp) : Prop := ∃ Φ, HoldF g B S σ I H Φ
section
variable {g : Gb} {B : Bs} {S : SL} {σ : L2.St} {I H I' H' : Hp} {Φ : Nat → Hp}
theorem HoldF.ne (h : HoldF g B S σ I H Φ) {i : Nat} {a : Addr} (e : Φ i a ≠ none) : H a ≠ none ∧ I a = none ∧ B.H a = none := by
  cases q : Φ i a with
  | none => exact absurd q e
  | some o =>
    obtain ⟨h1, h2⟩ := h.fr i a o q
    exact ⟨ne_of_some h1, h2⟩
theorem Hold.len (h : Hold g B S σ I H) : σ.length = S.length := h.elim fun _ h => h.len
theorem Hold.sub (h : Hold g B S σ I H) : Same I H := h.elim fun _ h => h.sub
theorem Hold.base (h : Hold g B S σ I H) : SW B.H H := h.elim fun _ h => h.base
theorem Hold.tb (h : Hold g B S σ I H) : TbH B.H I H := h.elim fun _ h => h.tb
theorem TbH.ext {BH : Hp} (t : TbH BH I H) (x : Ext I H I' H') : TbH BH I' H' := ⟨x.h.t t.t, t.b, fun p hp => x.n _ (t.t.ne hp) (t.i p hp)⟩
theorem TbH.has {BH : Hp} (t : TbH BH I H) : HasT H := fun p hp => t.t.ne hp
theorem HoldF.noT (h : HoldF g B S σ I H Φ) (i : Nat) : ∀ p ∈ TabsC.T, Φ i p.1 = none := fun p hp => by
  cases e : Φ i p.1 with
  | none => rfl
  | some u => exact absurd (h.fr i _ u e).2.2 (h.tb.b p hp)
theorem Hold.at_ (h : Hold g B S σ I H) (i : Nat) (k : RK) (e : S[i]? = some (some k)) : ∃ v, σ[i]? = some (some v) ∧ RK.holds g k B.H v I H := by
  obtain ⟨Φ, h⟩ := h
  obtain ⟨v, e1, q⟩ := h.at_ i k e
  refine ⟨v, e1, ?_⟩
  cases k with
  | im p => exact q
  | fr p =>
    obtain ⟨l, vs, e3, h3, h4⟩ := q
    obtain ⟨f1, f2, f3⟩ := h.fr i l _ h3
    exact ⟨l, vs, e3, f3, f2, f1, h4⟩
  | bw p => exact q
  | rd p => exact q.elim
  | ow o => exact ⟨Φ i, fun a ha => ⟨(h.ne ha).2.2, (h.ne ha).2.1⟩, fun a o e => (h.fr i a o e).1, q⟩
theorem HoldF.ext (h : HoldF g B S σ I H Φ) (x : Ext I H I' H') : HoldF g B S σ I' H' Φ :=
  ⟨h.len, x.s, h.base.trans x.h, h.tb.ext x, fun i k e => let ⟨v, e1, q⟩ := h.at_ i k e; ⟨v, e1, RK.inS_mono x.i q⟩, fun i a o e => let ⟨h1, h2, h3⟩ := h.fr i a o e; ⟨x.h.at_ h1 (fun p hp z => by rw [← z, h.noT i p hp] at e; cases e), x.n a (ne_of_some h1) h2, h3⟩, h.dj⟩
theorem Hold.ext (h : Hold g B S σ I H) (x : Ext I H I' H') : Hold g B S σ I' H' := h.elim fun Φ h => ⟨Φ, h.ext x⟩
end
def RK.slotty : RK → Bool
  | .im _ => true
  | .fr _ => true
  | .ow _ => true
  | _ => false
theorem set_some {α : Type} {l : List α} {i j : Nat} {x y : α} (h : (l.set i x)[j]? = some y) : (i = j ∧ x = y ∧ i < l.length) ∨ (i ≠ j ∧ l[j]? = some y) := by
  by_cases hj : i = j
  · subst hj
    have hi : i < l.length := by
      have := (List.getElem?_eq_some_iff.mp h).1
      rwa [List.length_set] at this
    rw [List.getElem?_set_self hi] at h
    exact .inl ⟨rfl, Option.some.inj h, hi⟩
  · rw [List.getElem?_set_ne hj] at h
    exact .inr ⟨hj, h⟩
/-- a single object -/
def one1 (l : Addr) (o : HO) : Hp := fun a => if a = l then some o else none
theorem one1_same {l : Addr} {o : HO} : one1 l o l = some o := if_pos rfl
theorem one1_ne {l a : Addr} {o : HO} (h : one1 l o a ≠ none) : a = l := by
  unfold one1 at h
  by_cases e : a = l
  · exact e
  · rw [if_neg e] at h; exact absurd rfl h
theorem one1_some {l a : Addr} {o u : HO} (h : one1 l o a = some u) : a = l ∧ u = o := by
  have e := one1_ne (ne_of_some h)
  subst e
  rw [one1_same] at h
  exact ⟨rfl, (Option.some.inj h).symm⟩
/-- what a value brings along -/
theorem RK.frag {g : Gb} {k : RK} {H : Hp} {v : V} {I' H' : Hp} (hk : k.slotty = true) (h : RK.holds g k H v I' H') : ∃ F : Hp, (∀ a, F a ≠ none → H a = none ∧ I' a = none) ∧ Same F H' ∧ ∀ B, RK.inS g k B v I' F := by
  cases k with
  | im p => exact ⟨fun _ => none, fun a z => absurd rfl z, fun _ _ z => (by cases z), fun _ => h⟩
  | fr q =>
    obtain ⟨l, vs, e, h1, h2, h3, h4⟩ := h
    refine ⟨one1 l (.lst vs), fun a ha => ?_, fun a o e => ?_, fun _ => ⟨l, vs, e, one1_same, h4⟩⟩
    · rw [one1_ne ha]; exact ⟨h1, h2⟩
    · obtain ⟨e1, e2⟩ := one1_some e
      rw [e1, e2]; exact h3
  | bw q => cases hk
  | rd q => cases hk
  | ow o =>
    obtain ⟨F, h1, h2, h3⟩ := h
    exact ⟨F, h1, h2, fun _ => h3⟩
/-- the fragments with another one at i -/
def putF (Φ : Nat → Hp) (i : Nat) (F : Hp) : Nat → Hp := fun j => if j = i then F else Φ j
theorem putF_same {Φ : Nat → Hp} {i : Nat} {F : Hp} : putF Φ i F i = F := if_pos rfl
theorem putF_ne {Φ : Nat → Hp} {i j : Nat} {F : Hp} (h : j ≠ i) : putF Φ i F j = Φ j := if_neg h
/-- a value goes to a slot -/
theorem HoldF.set {g : Gb} {B : Bs} {S : SL} {σ : L2.St} {I H : Hp} {Φ : Nat → Hp} {i : Nat} {k : RK} {v : V} {F : Hp} (h : HoldF g B S σ I H Φ) (hv : RK.inS g k B.H v I F) (hF : Same F H) (hn : ∀ a, F a ≠ none → I a = none ∧ B.H a = none) (hd : ∀ j a, j ≠ i → F a ≠ none → Φ j a = none) :
    HoldF g B (S.set i (some k)) (σ.set i (some v)) I H (putF Φ i F) := by
  refine ⟨by rw [List.length_set, List.length_set, h.len], h.sub, h.base, h.tb, fun j k' e => ?_, fun j a o e => ?_, fun j l a hj hl => ?_⟩
  · rcases set_some e with ⟨a, b, c⟩ | ⟨a, b⟩
    · subst a
      cases b
      exact ⟨v, List.getElem?_set_self (by rw [h.len]; exact c), by rw [putF_same]; exact hv⟩
    · obtain ⟨u, e1, q⟩ := h.at_ j k' b
      exact ⟨u, by rw [List.getElem?_set_ne a]; exact e1, by rw [putF_ne (fun z => a z.symm)]; exact q⟩
  · by_cases hji : j = i
    · rw [hji, putF_same] at e
      exact ⟨hF _ _ e, hn a (ne_of_some e)⟩
    · rw [putF_ne hji] at e
      exact h.fr j a o e
  · by_cases hji : j = i
    · by_cases hli : l = i
      · rw [hji, hli]
      · rw [hji, putF_same] at hj
        rw [putF_ne hli] at hl
        exact absurd (hd l a hli hj) hl
    · by_cases hli : l = i
      · rw [hli, putF_same] at hl
        rw [putF_ne hji] at hj
        exact absurd (hd j a hji hl) hj
      · rw [putF_ne hji] at hj
        rw [putF_ne hli] at hl
        exact h.dj j l a hj hl
theorem Hold.put {g : Gb} {B : Bs} {S : SL} {σ : L2.St} {I H I' H' : Hp} {i : Nat} {k : RK} {v : V} (h : Hold g B S σ I H) (x : Ext I H I' H') (hk : k.slotty = true) (hv : RK.holds g k H v I' H') : Hold g B (S.set i (some k)) (σ.set i (some v)) I' H' := by
  obtain ⟨Φ, h⟩ := h
  obtain ⟨F, f1, f2, f3⟩ := RK.frag hk hv
  refine ⟨putF Φ i F, (h.ext x).set (f3 _) f2 (fun a ha => ⟨(f1 a ha).2, h.base.free (f1 a ha).1⟩) fun j a _ ha => ?_⟩
  cases q : Φ j a with
  | none => rfl
  | some o => exact absurd (f1 a ha).1 (ne_of_some (h.fr j a o q).1)
end T
set_option Elab.async false
set_option linter.all false
set_option maxRecDepth 100000
namespace T
variable [TabsC]
open PySem PySem.Spec PyProof.Rows L2

/-! judgements: an expression's value, a test's answer, an argument list -/
def rdE (g : Gb) (B : Bs) (S : SL) (k : RK) : TE := fun σ H Q => ∃ I, Hold g B S σ I H ∧ ∀ v I' H', Ext I H I' H' → RK.holds g k H v I' H' → Q v H'
structure ME {α : Type} (X : Cx) (g : Gb) (B : Bs) (S : SL) (e : Expr) (m : Option α) (k : α → RK) : Prop where
  run : ∀ a, m = some a → PE X e (rdE g B S (k a))
def rdT (g : Gb) (B : Bs) (S : SL) (b : Bool) : TT := fun σ H Q => ∃ I, Hold g B S σ I H ∧ ∀ I' H', Ext I H I' H' → Q b H'
structure MT (X : Cx) (g : Gb) (B : Bs) (S : SL) (e : Expr) (m : Option Bool) : Prop where
  run : ∀ b, m = some b → PT X e (rdT g B S b)
structure MW (X : Cx) (g : Gb) (B : Bs) (S : SL) (e : Expr) (m : Option Bool) : Prop where
  run : ∀ b, m = some b → PW X e (rdT g B S b)
theorem pe_imp {X : Cx} {e : Expr} {t t' : TE} (h : PE X e t) (f : ∀ σ H Q, t' σ H Q → t σ H Q) : PE X e t' := ⟨fun pins s σ H Q I hw => h.run pins s σ H Q I (f σ H Q hw)⟩
theorem pt_imp {X : Cx} {e : Expr} {t t' : TT} (h : PT X e t) (f : ∀ σ H Q, t' σ H Q → t σ H Q) : PT X e t' := ⟨fun pins s σ H Q I hw => h.run pins s σ H Q I (f σ H Q hw)⟩
theorem pw_imp {X : Cx} {e : Expr} {t t' : TT} (h : PW X e t) (f : ∀ σ H Q, t' σ H Q → t σ H Q) : PW X e t' := ⟨fun wh pins s σ H Q I hw => h.run wh pins s σ H Q I (f σ H Q hw)⟩
theorem bind_some {α β : Type} {m : Option α} {f : α → Option β} {b : β} (h : (m >>= f) = some b) : ∃ a, m = some a ∧ f a = some b := by
  cases m with
  | none => cases h
  | some a => exact ⟨a, rfl, h⟩
theorem ME.eq {α : Type} {X : Cx} {g : Gb} {B : Bs} {S : SL} {e : Expr} {m m' : Option α} {k : α → RK} (h : ME X g B S e m k) (q : m = m') : ME X g B S e m' k := q ▸ h
theorem MT.eq {X : Cx} {g : Gb} {B : Bs} {S : SL} {e : Expr} {m m' : Option Bool} (h : MT X g B S e m) (q : m = m') : MT X g B S e m' := q ▸ h

/-- a list that can be read -/
def LR {α : Type} [Py α] (g : Gb) (k : List α → RK) : Prop := ∀ xs H v I' H', Same I' H' → RK.holds g (k xs) H v I' H' → ∃ l vs, v = .ref l ∧ SqL g.K H' l vs ∧ (rl g xs).p I' vs
section
variable {α β γ δ : Type} [Py α] [Py β] [Py γ] [Py δ] {g : Gb}
theorem lr_im : LR (α := α) g (fun xs => .im (Py.r g xs)) := fun xs H v I' H' s h => by
  obtain ⟨l, vs, e, h1, h2⟩ := h
  exact ⟨l, vs, e, s.seq h1, h2⟩
theorem lr_fr : LR (α := α) g (fun xs => .fr (rl g xs)) := fun xs H v I' H' s h => by
  obtain ⟨l, vs, e, _, _, h1, h2⟩ := h
  exact ⟨l, vs, e, SqL.of h1, h2⟩
theorem lr_rd : LR (α := α) g (fun xs => .rd (rl g xs)) := fun xs H v I' H' s h => h
end
theorem vals_ints {g : Gb} {I : Hp} : ∀ {ns : List Int} {vs : List V}, Paired (fun a v => (Py.r g a).p I v) ns vs → vs = ns.map V.int
  | _, _, .nil => rfl
  | _, _, .cons (a := a) h t => by
    have e : _ = V.int a := h
    rw [e, List.map_cons, vals_ints t]
theorem vals_bls {g : Gb} {I : Hp} : ∀ {ns : List Bool} {vs : List V}, Paired (fun a v => (Py.r g a).p I v) ns vs → vs = ns.map V.bl
  | _, _, .nil => rfl
  | _, _, .cons (a := a) h t => by
    have e : _ = V.bl a := h
    rw [e, List.map_cons, vals_bls t]
theorem paired_get {α β : Type} {F : α → β → Prop} : ∀ {l₁ : List α} {l₂ : List β}, Paired F l₁ l₂ → ∀ {i : Nat} {a : α}, l₁[i]? = some a → ∃ b, l₂[i]? = some b ∧ F a b
  | _, _, .nil, i, a, h => by simp at h
  | _, _, .cons h t, 0, a, e => by
    cases e
    exact ⟨_, rfl, h⟩
  | _, _, .cons h t, i + 1, a, e => paired_get t (i := i) (by simpa using e)
theorem paired_app {α β : Type} {F : α → β → Prop} : ∀ {a : List α} {b : List β} {c : List α} {d : List β}, Paired F a b → Paired F c d → Paired F (a ++ c) (b ++ d)
  | _, _, _, _, .nil, h => h
  | _, _, _, _, .cons x t, h => .cons x (paired_app t h)
theorem paired_take {α β : Type} {F : α → β → Prop} : ∀ {a : List α} {b : List β} (n : Nat), Paired F a b → Paired F (a.take n) (b.take n)
  | _, _, 0, _ => .nil
  | _, _, _ + 1, .nil => .nil
  | _, _, n + 1, .cons x t => .cons x (paired_take n t)
theorem paired_drop {α β : Type} {F : α → β → Prop} : ∀ {a : List α} {b : List β} (n : Nat), Paired F a b → Paired F (a.drop n) (b.drop n)
  | _, _, 0, h => h
  | _, _, _ + 1, .nil => .nil
  | _, _, n + 1, .cons x t => paired_drop n t
theorem paired_set {α β : Type} {F : α → β → Prop} {x : α} {y : β} (h : F x y) : ∀ {a : List α} {b : List β} (n : Nat), Paired F a b → Paired F (a.set n x) (b.set n y)
  | _, _, _, .nil => .nil
  | _, _, 0, .cons _ t => .cons h t
  | _, _, n + 1, .cons z t => .cons z (paired_set h n t)
theorem paired_rep {α β : Type} {F : α → β → Prop} {a : List α} {b : List β} (h : Paired F a b) : ∀ n : Nat, Paired F (List.replicate n a).flatten (List.replicate n b).flatten
  | 0 => .nil
  | n + 1 => by
    rw [List.replicate_succ, List.replicate_succ, List.flatten_cons, List.flatten_cons]
    exact paired_app h (paired_rep h n)
theorem atI_ix {α : Type} {xs : List α} {i : Int} {v : α} (h : atI xs i = some v) : ∃ j, ixN xs.length i = some j ∧ xs[j]? = some v := by
  unfold atI at h
  cases e : ixN xs.length i with
  | none => rw [e] at h; cases h
  | some j => rw [e] at h; exact ⟨j, rfl, h⟩
theorem paired_at {α β : Type} {F : α → β → Prop} {l₁ : List α} {l₂ : List β} (h : Paired F l₁ l₂) {i : Int} {a : α} (e : atI l₁ i = some a) : ∃ b, atI l₂ i = some b ∧ F a b := by
  obtain ⟨j, e1, e2⟩ := atI_ix e
  obtain ⟨b, e3, q⟩ := paired_get h e2
  refine ⟨b, ?_, q⟩
  unfold atI
  rw [← Paired.length h, e1]
  exact e3

/-- the item at a place, counted from the end below 0 -/
@[irreducible] def atO {α : Type} (xs : List α) (i : Int) : Option α := atI xs i
theorem atO_eq {α : Type} (xs : List α) (i : Int) : atO xs i = atI xs i := by unfold atO; rfl

section
variable {X : Cx} {g : Gb} {B : Bs} {S : SL} {e e1 e2 e3 : Expr} {pos pos' : Pos} {α β γ δ : Type} [Py α] [Py β] [Py γ] [Py δ]

/-! names, constants -/
theorem me_var (i : Nat) {x : Str} {a : α} (hS : S[i]? = some (some (.im (Py.r g a))) := by rfl) (hN : X.N[i]? = some x := by rfl) (hv : Vis X.env.scope x := by first | exact Or.inl rfl | exact Or.inr (Or.inl rfl) | exact Or.inr (Or.inr rfl))
    (hd : (x == ("__debug__" : Str)) = false := by decide) (hcd : (x == ("__classdict__" : Str)) = false := by decide) : ME X g B S (.Name x pos) (some a) (fun a => .im (Py.r g a)) := by
  refine ⟨fun a' e => ?_⟩
  cases e
  refine pe_imp (pe_var hN hv hd hcd) fun σ H Q ⟨I, h, q⟩ => ?_
  obtain ⟨v, e1, h1⟩ := h.at_ i _ hS
  exact ⟨v, e1, q v I H (Ext.refl h.sub) h1⟩
/-- an owned list, seen -/
theorem me_own (i : Nat) {x : Str} {as : List α} (hS : S[i]? = some (some (.fr (rl g as))) := by rfl) (hN : X.N[i]? = some x := by rfl) (hv : Vis X.env.scope x := by first | exact Or.inl rfl | exact Or.inr (Or.inl rfl) | exact Or.inr (Or.inr rfl))
    (hd : (x == ("__debug__" : Str)) = false := by decide) (hcd : (x == ("__classdict__" : Str)) = false := by decide) : ME X g B S (.Name x pos) (some as) (fun as => .rd (rl g as)) := by
  refine ⟨fun a' e => ?_⟩
  cases e
  refine pe_imp (pe_var hN hv hd hcd) fun σ H Q ⟨I, h, q⟩ => ?_
  obtain ⟨v, e1, l, vs, e2, _, _, h3, h4⟩ := h.at_ i _ hS
  exact ⟨v, e1, q v I H (Ext.refl h.sub) ⟨l, vs, e2, SqL.of h3, h4⟩⟩
/-- a borrowed list, seen -/
theorem me_bor (i : Nat) {x : Str} {as : List α} (hS : S[i]? = some (some (.bw (rl g as))) := by rfl) (hN : X.N[i]? = some x := by rfl) (hv : Vis X.env.scope x := by first | exact Or.inl rfl | exact Or.inr (Or.inl rfl) | exact Or.inr (Or.inr rfl))
    (hd : (x == ("__debug__" : Str)) = false := by decide) (hcd : (x == ("__classdict__" : Str)) = false := by decide) : ME X g B S (.Name x pos) (some as) (fun as => .rd (rl g as)) := by
  refine ⟨fun a' e => ?_⟩
  cases e
  refine pe_imp (pe_var hN hv hd hcd) fun σ H Q ⟨I, h, q⟩ => ?_
  obtain ⟨v, e1, l, vs, e2, h3, h4⟩ := h.at_ i _ hS
  exact ⟨v, e1, q v I H (Ext.refl h.sub) ⟨l, vs, e2, h.base.seq h3, h4⟩⟩
theorem me_c {v : V} {a : α} (h : PE X e (tC v)) (hv : ∀ I, (Py.r g a).p I v) : ME X g B S e (some a) (fun a => .im (Py.r g a)) := by
  refine ⟨fun a' e => ?_⟩
  cases e
  exact pe_imp h fun σ H Q ⟨I, h, q⟩ => q v I H (Ext.refl h.sub) (hv I)
theorem me_int {i j} : ME X g B S (.Constant (.int i) j pos) (some i) (fun a => .im (Py.r g a)) := me_c pe_int fun _ => rfl
theorem me_bl {b j} : ME X g B S (.Constant (.bool b) j pos) (some b) (fun a => .im (Py.r g a)) := me_c pe_bl fun _ => rfl
theorem me_str {x j} : ME X g B S (.Constant (.str x) j pos) (some x) (fun a => .im (Py.r g a)) := me_c pe_str fun _ => rfl
theorem me_non {j} : ME X g B S (.Constant .none j pos) (some (none : Option α)) (fun a => .im (Py.r g a)) := me_c pe_non fun _ => rfl
theorem me_unit {j} : ME X g B S (.Constant .none j pos) (some ()) (fun a => .im (Py.r g a)) := me_c pe_non fun _ => rfl
/-- a thing as one that may be None; one that is not -/
theorem me_some {m : Option α} (h : ME X g B S e m (fun a => .im (Py.r g a))) : ME X g B S e (m >>= fun a => some (some a)) (fun a => .im (Py.r g a)) := by
  refine ⟨fun a q => ?_⟩
  obtain ⟨b, e1, e2⟩ := bind_some q
  cases e2
  exact h.run b e1
theorem me_get {m : Option (Option α)} (h : ME X g B S e m (fun a => .im (Py.r g a))) : ME X g B S e (m >>= fun a => a) (fun a => .im (Py.r g a)) := by
  refine ⟨fun a q => ?_⟩
  obtain ⟨b, e1, e2⟩ := bind_some q
  subst e2
  exact h.run _ e1
/-- a new list is let go: it stays as it is from here on -/
theorem me_frz {m : Option (List α)} (h : ME X g B S e m (fun a => .fr (rl g a))) : ME X g B S e m (fun a => .im (Py.r g a)) := by
  refine ⟨fun a q => pe_imp (h.run a q) fun σ H Q ⟨I, hh, k⟩ => ⟨I, hh, fun v I' H' x hv => ?_⟩⟩
  obtain ⟨l, vs, rfl, h1, h2, h3, h4⟩ := hv
  refine k _ (upd I' l (.lst vs)) H' ⟨x.i.trans (same_new h2), x.h, fun b o e => ?_, fun b n1 n2 => ?_⟩ ⟨l, vs, rfl, SqL.of upd_same, (rl g a).mono (same_new h2) h4⟩
  · by_cases hb : b = l
    · subst hb
      rw [upd_same] at e
      cases e
      exact h3
    · rw [upd_ne hb] at e
      exact x.s _ _ e
  · have hb : b ≠ l := fun z => n1 (z ▸ h1)
    rw [upd_ne hb]
    exact x.n b n1 n2

/-! two operands -/
theorem me_bin {op : Operator} {r : R2} {a' b' c' : Type} {m1 : Option a'} {m2 : Option b'} {f : a' → b' → Option c'} {k1 : a' → RK} {k2 : b' → RK} {k : c' → RK} (ho : OpR X (binaryOp op) r) (h1 : ME X g B S e1 m1 k1) (h2 : ME X g B S e2 m2 k2)
    (hr : ∀ a b c, f a b = some c → ∀ v w I H H0 H1 Q, Same I H → RK.holds g (k1 a) H0 v I H → RK.holds g (k2 b) H1 w I H → (∀ u I' H', Ext I H I' H' → RK.holds g (k c) H u I' H' → Q u H') → r v w H Q)
    (hb : ∀ c, (k c).isB = false := by intro _; rfl) : ME X g B S (.BinOp e1 op e2 pos) (m1 >>= fun a => m2 >>= fun b => f a b) k := by
  refine ⟨fun c q => ?_⟩
  obtain ⟨a, q1, q⟩ := bind_some q
  obtain ⟨b, q2, q⟩ := bind_some q
  refine pe_imp (pe_op ho (h1.run a q1) (h2.run b q2)) fun σ H Q ⟨I, hh, kk⟩ => ⟨I, hh, fun v I1 H1 x1 v1 => ⟨I1, hh.ext x1, fun w I2 H2 x2 v2 => ?_⟩⟩
  exact hr a b c q v w I2 H2 _ _ Q x2.s (RK.ext v1 x2 hh.tb.has) v2 fun u I3 H3 x3 v3 => kk u I3 H3 ((x1.trans x2).trans x3) (RK.back (hb c) (x1.trans x2).h v3)
/-- a comparison: as a value and as a test -/
structure MC (X : Cx) (g : Gb) (B : Bs) (S : SL) (e : Expr) (m : Option Bool) : Prop where
  run : ∀ c, m = some c → ∃ t : TE, PE X e t ∧ PT X e (tTest t) ∧ ∀ σ H Q, rdE g B S (.im (Py.r g c)) σ H Q → t σ H Q
theorem me_cm {m : Option Bool} (h : MC X g B S e m) : ME X g B S e m (fun c => .im (Py.r g c)) := ⟨fun c q => by
  obtain ⟨t, h1, _, h3⟩ := h.run c q
  exact pe_imp h1 h3⟩
theorem mt_cm {m : Option Bool} (h : MC X g B S e m) : MT X g B S e m := ⟨fun c q => by
  obtain ⟨t, _, h2, h3⟩ := h.run c q
  exact pt_imp h2 fun σ H Q ⟨I, hh, k⟩ => h3 σ H _ ⟨I, hh, fun v I' H' x hv => ⟨c, hv, k I' H' x⟩⟩⟩
theorem MC.eq {m m' : Option Bool} (h : MC X g B S e m) (q : m = m') : MC X g B S e m' := q ▸ h
theorem mc_cmp {op : CmpOp} {r : R2} {a' b' : Type} {m1 : Option a'} {m2 : Option b'} {f : a' → b' → Option Bool} {k1 : a' → RK} {k2 : b' → RK} (ho : OpR X (compareOp op) r) (h1 : ME X g B S e1 m1 k1) (h2 : ME X g B S e2 m2 k2)
    (hr : ∀ a b c, f a b = some c → ∀ v w I H H0 H1 Q, Same I H → RK.holds g (k1 a) H0 v I H → RK.holds g (k2 b) H1 w I H → (∀ u I' H', Ext I H I' H' → RK.holds g (.im (Py.r g c)) H u I' H' → Q u H') → r v w H Q)
    (hm : behindInMarks op e2 = false := by first | exact nomark _ | rfl) : MC X g B S (.Compare e1 [op] [e2] pos) (m1 >>= fun a => m2 >>= fun b => f a b) := by
  refine ⟨fun c q => ?_⟩
  obtain ⟨a, q1, q⟩ := bind_some q
  obtain ⟨b, q2, q⟩ := bind_some q
  refine ⟨_, pe_cmpR ho (h1.run a q1) (h2.run b q2) hm, pt_cmpR ho (h1.run a q1) (h2.run b q2) hm, fun σ H Q ⟨I, hh, kk⟩ => ⟨I, hh, fun v I1 H1 x1 v1 => ⟨I1, hh.ext x1, fun w I2 H2 x2 v2 => ?_⟩⟩⟩
  exact hr a b c q v w I2 H2 _ _ Q x2.s (RK.ext v1 x2 hh.tb.has) v2 fun u I3 H3 x3 v3 => kk u I3 H3 ((x1.trans x2).trans x3) v3
variable {m m1 : Option Int} {m2 : Option Int}
abbrev KI (g : Gb) {α : Type} [Py α] : α → RK := fun a => .im (Py.r g a)
/-- ints -/
theorem me_i0 {op : Operator} {f : Int → Int → Int} (ho : OpR X (binaryOp op) (rI0 fun i j => .int (f i j))) (h1 : ME X g B S e1 m1 (KI g)) (h2 : ME X g B S e2 m2 (KI g)) :
    ME X g B S (.BinOp e1 op e2 pos) (m1 >>= fun a => m2 >>= fun b => some (f a b)) (KI g) :=
  me_bin ho h1 h2 fun a b c q v w I H H0 H1 Q s v1 v2 k => by
    cases q
    exact ⟨a, b, v1, v2, k _ _ _ (Ext.refl s) rfl⟩
theorem me_i1 {op : Operator} {f : Int → Int → Int} {C : Int → Int → Prop} {D : Int → Int → Bool} (ho : OpR X (binaryOp op) (rI C fun i j => .int (f i j))) (hD : ∀ i j, D i j = true → C i j) (h1 : ME X g B S e1 m1 (KI g)) (h2 : ME X g B S e2 m2 (KI g)) :
    ME X g B S (.BinOp e1 op e2 pos) (m1 >>= fun a => m2 >>= fun b => if D a b = true then some (f a b) else none) (KI g) :=
  me_bin ho h1 h2 fun a b c q v w I H H0 H1 Q s v1 v2 k => by
    by_cases hd : D a b = true
    · rw [if_pos hd] at q
      cases q
      exact ⟨a, b, v1, v2, hD _ _ hd, k _ _ _ (Ext.refl s) rfl⟩
    · rw [if_neg hd] at q
      cases q
theorem me_add (h1 : ME X g B S e1 m1 (KI g)) (h2 : ME X g B S e2 m2 (KI g)) : ME X g B S (.BinOp e1 .Add e2 pos) (m1 >>= fun a => m2 >>= fun b => some (a + b)) (KI g) := me_i0 op_add h1 h2
theorem me_sub (h1 : ME X g B S e1 m1 (KI g)) (h2 : ME X g B S e2 m2 (KI g)) : ME X g B S (.BinOp e1 .Sub e2 pos) (m1 >>= fun a => m2 >>= fun b => some (a - b)) (KI g) := me_i0 op_sub h1 h2
end
/-- a product that can be reckoned -/
def mulOk (i j : Int) : Bool := decide (-(2 ^ 64) < i ∧ i < 2 ^ 64) || decide (-(2 ^ 64) < j ∧ j < 2 ^ 64) || decide (i.natAbs.log2 + j.natAbs.log2 < 1000000)
def divOk (_ j : Int) : Bool := decide (0 < j ∧ j.natAbs.log2 < 9000)
def modOk (_ j : Int) : Bool := decide (0 < j)
@[irreducible] def mulO (i j : Int) : Option Int := if mulOk i j = true then some (i * j) else none
theorem mulO_eq (i j : Int) : mulO i j = if mulOk i j = true then some (i * j) else none := by unfold mulO; rfl
@[irreducible] def divO (i j : Int) : Option Int := if divOk i j = true then some (i / j) else none
theorem divO_eq (i j : Int) : divO i j = if divOk i j = true then some (i / j) else none := by unfold divO; rfl
@[irreducible] def modO (i j : Int) : Option Int := if modOk i j = true then some (i % j) else none
theorem modO_eq (i j : Int) : modO i j = if modOk i j = true then some (i % j) else none := by unfold modO; rfl
section
variable {X : Cx} {g : Gb} {B : Bs} {S : SL} {e e1 e2 e3 : Expr} {pos pos' : Pos} {α β γ δ : Type} [Py α] [Py β] [Py γ] [Py δ] {m m1 m2 : Option Int}
theorem op_mulT : OpR X (binaryOp .Mult) (rI (fun i j => mulOk i j = true) fun i j => .int (i * j)) := opI fun i j _ _ _ _ _ hc q => mul_int q (by
  unfold mulOk at hc
  rw [Bool.or_eq_true, Bool.or_eq_true, decide_eq_true_eq, decide_eq_true_eq, decide_eq_true_eq] at hc
  rcases hc with (h | h) | h
  · exact CMul.ok (.inl h)
  · exact CMul.ok (.inr h)
  · exact CMulW.ok h)
theorem me_mul (h1 : ME X g B S e1 m1 (KI g)) (h2 : ME X g B S e2 m2 (KI g)) : ME X g B S (.BinOp e1 .Mult e2 pos) (m1 >>= fun a => m2 >>= fun b => mulO a b) (KI g) := (me_i1 op_mulT (fun _ _ h => h) h1 h2).eq (by simp only [mulO_eq])
theorem me_div (h1 : ME X g B S e1 m1 (KI g)) (h2 : ME X g B S e2 m2 (KI g)) : ME X g B S (.BinOp e1 .FloorDiv e2 pos) (m1 >>= fun a => m2 >>= fun b => divO a b) (KI g) := (me_i1 op_fdivW (fun i j h => by have q : 0 < j ∧ j.natAbs.log2 < 9000 := of_decide_eq_true h; exact q) h1 h2 (D := divOk)).eq (by simp only [divO_eq])
theorem me_mod (h1 : ME X g B S e1 m1 (KI g)) (h2 : ME X g B S e2 m2 (KI g)) : ME X g B S (.BinOp e1 .Mod e2 pos) (m1 >>= fun a => m2 >>= fun b => modO a b) (KI g) := (me_i1 op_mod (fun _ _ h => of_decide_eq_true h) h1 h2 (D := modOk)).eq (by simp only [modO_eq])
/-- by a written number -/
theorem me_mulC {n : Int} (hn : decide (-(2 ^ 64) < n ∧ n < 2 ^ 64) = true) (h1 : ME X g B S e1 m1 (KI g)) (h2 : ME X g B S e2 (some n) (KI g)) : ME X g B S (.BinOp e1 .Mult e2 pos) (m1 >>= fun a => some (a * n)) (KI g) := by
  refine (me_mul h1 h2).eq ?_
  cases m1 with
  | none => rfl
  | some a =>
    show mulO a n = some (a * n)
    rw [mulO_eq, if_pos (by unfold mulOk; rw [hn]; simp)]
theorem me_mulD {n : Int} (hn : decide (-(2 ^ 64) < n ∧ n < 2 ^ 64) = true) (h1 : ME X g B S e1 (some n) (KI g)) (h2 : ME X g B S e2 m2 (KI g)) : ME X g B S (.BinOp e1 .Mult e2 pos) (m2 >>= fun a => some (n * a)) (KI g) := by
  refine (me_mul h1 h2).eq ?_
  cases m2 with
  | none => rfl
  | some a =>
    show mulO n a = some (n * a)
    rw [mulO_eq, if_pos (by unfold mulOk; rw [hn]; simp)]
theorem me_divC {n : Int} (hn : divOk 0 n = true) (h1 : ME X g B S e1 m1 (KI g)) (h2 : ME X g B S e2 (some n) (KI g)) : ME X g B S (.BinOp e1 .FloorDiv e2 pos) (m1 >>= fun a => some (a / n)) (KI g) := by
  refine (me_div h1 h2).eq ?_
  cases m1 with
  | none => rfl
  | some a =>
    show divO a n = some (a / n)
    rw [divO_eq, if_pos (show divOk a n = true from hn)]
theorem me_modC {n : Int} (hn : modOk 0 n = true) (h1 : ME X g B S e1 m1 (KI g)) (h2 : ME X g B S e2 (some n) (KI g)) : ME X g B S (.BinOp e1 .Mod e2 pos) (m1 >>= fun a => some (a % n)) (KI g) := by
  refine (me_mod h1 h2).eq ?_
  cases m1 with
  | none => rfl
  | some a =>
    show modO a n = some (a % n)
    rw [modO_eq, if_pos (show modOk a n = true from hn)]
/-- comparisons of ints -/
theorem mc_ci {op : CmpOp} {f : Int → Int → Bool} (ho : OpR X (compareOp op) (rI0 fun i j => .bl (f i j))) (h1 : ME X g B S e1 m1 (KI g)) (h2 : ME X g B S e2 m2 (KI g)) (hm : behindInMarks op e2 = false) :
    MC X g B S (.Compare e1 [op] [e2] pos) (m1 >>= fun a => m2 >>= fun b => some (f a b)) :=
  mc_cmp ho h1 h2 (fun a b c q v w I H H0 H1 Q s v1 v2 k => by
    cases q
    exact ⟨a, b, v1, v2, k _ _ _ (Ext.refl s) rfl⟩) hm
theorem mc_lt (h1 : ME X g B S e1 m1 (KI g)) (h2 : ME X g B S e2 m2 (KI g)) : MC X g B S (.Compare e1 [.Lt] [e2] pos) (m1 >>= fun a => m2 >>= fun b => some (decide (a < b))) := mc_ci op_lt h1 h2 (nomark _)
theorem mc_gt (h1 : ME X g B S e1 m1 (KI g)) (h2 : ME X g B S e2 m2 (KI g)) : MC X g B S (.Compare e1 [.Gt] [e2] pos) (m1 >>= fun a => m2 >>= fun b => some (decide (b < a))) := mc_ci op_gt h1 h2 (nomark _)
theorem mc_ge (h1 : ME X g B S e1 m1 (KI g)) (h2 : ME X g B S e2 m2 (KI g)) : MC X g B S (.Compare e1 [.GtE] [e2] pos) (m1 >>= fun a => m2 >>= fun b => some (decide (b ≤ a))) := mc_ci op_ge h1 h2 (nomark _)
end
end T
set_option Elab.async false
set_option linter.all false
set_option maxRecDepth 100000
namespace T
variable [TabsC]
open PySem PySem.Spec PyProof.Rows L2

/-! data that == reads: PySem.W.Datum, and how it stands in the abstract heap -/
class Pd (α : Type) [Py α] [DecidableEq α] extends PySem.W.Datum α where
  dp : ∀ {g : Gb} {a : α} {I : Hp} {v : V}, (Py.r g a).p I v → Dp g.K I v (toD a)
instance : Pd Int where
  dp := fun h => by cases h; exact .int _
instance : Pd Bool where
  dp := fun h => by cases h; exact .bl _
instance : Pd Str where
  dp := fun h => by cases h; exact .str _
instance : Pd Unit where
  dp := fun h => by cases h; exact .non
theorem dp_mono {K : PySem.W.Frag} {H H' : Hp} (s : Same H H') : ∀ {d : PyData} {v : V}, Dp K H v d → Dp K H' v d := by
  intro d
  refine PyData.rec (motive_1 := fun d => ∀ {v : V}, Dp K H v d → Dp K H' v d) (motive_2 := fun ds => ∀ {vs : List V}, DpAll K H vs ds → DpAll K H' vs ds) (motive_3 := fun _ => True) (motive_4 := fun _ => True)
    ?_ ?_ ?_ ?_ ?_ ?_ ?_ ?_ ?_ ?_ ?_ ?_ d
  · intro v h; cases h; exact .non
  · intro b v h; cases h; exact .bl _
  · intro b v h; cases h; exact .int _
  · intro b v h; cases h; exact .str _
  · intro xs ih v h
    cases h with
    | lst h1 h2 => exact .lst (s.seq h1) (ih h2)
  · intro xs ih v h
    cases h with
    | tup h1 h2 => exact .tup (seqT s h1) (ih h2)
  · intro kvs _ v h; cases h
  · intro vs h; cases h; exact .nil
  · intro x xs i1 i2 vs h
    cases h with
    | cons h1 h2 => exact .cons (i1 h1) (i2 h2)
  · trivial
  · intros; trivial
  · intros; trivial
section
variable {α β γ δ : Type} [Py α] [Py β] [Py γ] [Py δ] [DecidableEq α] [DecidableEq β] [DecidableEq γ] [DecidableEq δ] [Pd α] [Pd β] [Pd γ] [Pd δ]
open PySem.W
theorem dp_all {g : Gb} {I : Hp} : ∀ {as : List α} {vs : List V}, Paired (fun a v => (Py.r g a).p I v) as vs → DpAll g.K I vs (as.map Datum.toD)
  | _, _, .nil => .nil
  | _, _, .cons h t => .cons (Pd.dp h) (dp_all t)
theorem plain_all : ∀ as : List α, PyData.plainAll (as.map Datum.toD) = true
  | [] => rfl
  | a :: as => by
    show (PyData.plain (Datum.toD a) && PyData.plainAll (as.map Datum.toD)) = true
    rw [Datum.plain a, plain_all as]; rfl
instance : Pd (List α) where
  dp := fun {g a I v} h => by
    obtain ⟨l, vs, rfl, h1, h2⟩ := h
    exact .lst h1 (dp_all h2.2)
instance : Datum (T2 α β) where
  toD := fun t => .tuple [Datum.toD t.x0, Datum.toD t.x1]
  plain := fun t => by simp [PyData.plain, PyData.plainAll, Datum.plain]
  eqv := fun a b => by
    obtain ⟨a0, a1⟩ := a
    obtain ⟨b0, b1⟩ := b
    rw [Bool.eq_iff_iff]
    simp [PyData.eqv, PyData.eqvAll, Datum.eqv]
  depth := max (Datum.depth α) (Datum.depth β) + 1
  depth_le := fun t => by
    have h0 := Datum.depth_le t.x0
    have h1 := Datum.depth_le t.x1
    simp only [PyData.depth, PyData.depthAll]
    omega
instance : Pd (T2 α β) where
  dp := fun {g a I v} h => by
    obtain ⟨p, x, y, rfl, h0, h1, h2⟩ := h
    exact .tup h0 (.cons (Pd.dp h1) (.cons (Pd.dp h2) .nil))
instance : Datum (T3 α β γ) where
  toD := fun t => .tuple [Datum.toD t.x0, Datum.toD t.x1, Datum.toD t.x2]
  plain := fun t => by simp [PyData.plain, PyData.plainAll, Datum.plain]
  eqv := fun a b => by
    obtain ⟨a0, a1, a2⟩ := a
    obtain ⟨b0, b1, b2⟩ := b
    rw [Bool.eq_iff_iff]
    simp [PyData.eqv, PyData.eqvAll, Datum.eqv]
  depth := max (Datum.depth α) (max (Datum.depth β) (Datum.depth γ)) + 1
  depth_le := fun t => by
    have h0 := Datum.depth_le t.x0
    have h1 := Datum.depth_le t.x1
    have h2 := Datum.depth_le t.x2
    simp only [PyData.depth, PyData.depthAll]
    omega
instance : Pd (T3 α β γ) where
  dp := fun {g a I v} h => by
    obtain ⟨p, x, y, z, rfl, h0, h1, h2, h3⟩ := h
    exact .tup h0 (.cons (Pd.dp h1) (.cons (Pd.dp h2) (.cons (Pd.dp h3) .nil)))
instance : Datum (T4 α β γ δ) where
  toD := fun t => .tuple [Datum.toD t.x0, Datum.toD t.x1, Datum.toD t.x2, Datum.toD t.x3]
  plain := fun t => by simp [PyData.plain, PyData.plainAll, Datum.plain]
  eqv := fun a b => by
    obtain ⟨a0, a1, a2, a3⟩ := a
    obtain ⟨b0, b1, b2, b3⟩ := b
    rw [Bool.eq_iff_iff]
    simp [PyData.eqv, PyData.eqvAll, Datum.eqv]
  depth := max (Datum.depth α) (max (Datum.depth β) (max (Datum.depth γ) (Datum.depth δ))) + 1
  depth_le := fun t => by
    have h0 := Datum.depth_le t.x0
    have h1 := Datum.depth_le t.x1
    have h2 := Datum.depth_le t.x2
    have h3 := Datum.depth_le t.x3
    simp only [PyData.depth, PyData.depthAll]
    omega
instance : Pd (T4 α β γ δ) where
  dp := fun {g a I v} h => by
    obtain ⟨p, x, y, z, w, rfl, h0, h1, h2, h3, h4⟩ := h
    exact .tup h0 (.cons (Pd.dp h1) (.cons (Pd.dp h2) (.cons (Pd.dp h3) (.cons (Pd.dp h4) .nil))))
end
/-- what is never None -/
class NN (α : Type) [Py α] [DecidableEq α] [Pd α] : Prop where
  nn : ∀ a : α, PyData.eqv .none (PySem.W.Datum.toD a) = false ∧ PyData.eqv (PySem.W.Datum.toD a) .none = false
instance : NN Int := ⟨fun _ => ⟨rfl, rfl⟩⟩
instance : NN Bool := ⟨fun _ => ⟨rfl, rfl⟩⟩
instance : NN Str := ⟨fun _ => ⟨rfl, rfl⟩⟩
section
variable {α β γ δ : Type} [Py α] [Py β] [Py γ] [Py δ] [DecidableEq α] [DecidableEq β] [DecidableEq γ] [DecidableEq δ] [Pd α] [Pd β] [Pd γ] [Pd δ]
open PySem.W
instance : NN (List α) := ⟨fun _ => ⟨rfl, rfl⟩⟩
instance : NN (T2 α β) := ⟨fun _ => ⟨rfl, rfl⟩⟩
instance : NN (T3 α β γ) := ⟨fun _ => ⟨rfl, rfl⟩⟩
instance : NN (T4 α β γ δ) := ⟨fun _ => ⟨rfl, rfl⟩⟩
instance [NN α] : Datum (Option α) where
  toD := fun o => match o with | none => .none | some a => Datum.toD a
  plain := fun o => by
    cases o with
    | none => rfl
    | some a => exact Datum.plain a
  eqv := fun a b => by
    cases a with
    | none =>
      cases b with
      | none => rfl
      | some b =>
        rw [decide_eq_false (by intro z; cases z)]
        exact (NN.nn b).1
    | some a =>
      cases b with
      | none =>
        rw [decide_eq_false (by intro z; cases z)]
        exact (NN.nn a).2
      | some b =>
        show PyData.eqv (Datum.toD a) (Datum.toD b) = _
        rw [Datum.eqv, Bool.eq_iff_iff]
        simp
  depth := Datum.depth α
  depth_le := fun o => by
    cases o with
    | none => exact Nat.zero_le _
    | some a => exact Datum.depth_le a
instance [NN α] : Pd (Option α) where
  dp := fun {g a I v} h => by
    cases a with
    | none => cases h; exact .non
    | some a => exact Pd.dp (α := α) h
end
section
variable {X : Cx}
open PySem.W PySem.SeqAt
def rEqP (K : PySem.W.Frag) : R2 := fun x y H Q => ∃ d e, Dp K H x d ∧ Dp K H y e ∧ d.plain = true ∧ e.plain = true ∧ d.depth ≤ 64 ∧ Q (.bl (PyData.eqv d e)) H
def rNeP (K : PySem.W.Frag) : R2 := fun x y H Q => ∃ d e, Dp K H x d ∧ Dp K H y e ∧ d.plain = true ∧ e.plain = true ∧ d.depth ≤ 64 ∧ Q (.bl (!PyData.eqv d e)) H
theorem op_eqP (hu : X.A.units + 64 < cLine) : OpR X (compareOp .Eq) (rEqP X.K) := by
  intro pins s σ H x y v u Q I rx ry h
  obtain ⟨d, e, hd, he, sd, se, dd, q⟩ := h
  obtain ⟨as, r1⟩ := Dp.reads I d x v hd rx
  obtain ⟨bs, r2⟩ := Dp.reads I e y u he ry
  exact eq_plain r1 r2 sd se (by have := Nat.min_le_left d.depth e.depth; omega) ⟨.bl _, H, I, rfl, q⟩
theorem op_neP (hu : X.A.units + 64 < cLine) : OpR X (compareOp .NotEq) (rNeP X.K) := by
  intro pins s σ H x y v u Q I rx ry h
  obtain ⟨d, e, hd, he, sd, se, dd, q⟩ := h
  obtain ⟨as, r1⟩ := Dp.reads I d x v hd rx
  obtain ⟨bs, r2⟩ := Dp.reads I e y u he ry
  exact ne_plain r1 r2 sd se (by have := Nat.min_le_left d.depth e.depth; omega) ⟨.bl _, H, I, rfl, q⟩
def rInP (K : PySem.W.Frag) (neg : Bool) : R2 := fun x y H Q => ∃ d ds, Dp K H x d ∧ (Dp K H y (.list ds) ∨ Dp K H y (.tuple ds)) ∧ d.plain = true ∧ PyData.plainAll ds = true ∧ d.depth ≤ 62 ∧ Q (.bl (if neg then !(ds.any fun y => PyData.eqv y d) else ds.any fun y => PyData.eqv y d)) H
theorem op_inP (hu : X.A.units + 64 < cLine) : OpR X (compareOp .In) (rInP X.K false) := by
  intro pins s σ H x y v u Q I rx ry h
  obtain ⟨d, ds, hd, he, sd, se, dd, q⟩ := h
  obtain ⟨as, r1⟩ := Dp.reads I d x v hd rx
  rcases he with he | he
  · obtain ⟨bs, r2⟩ := Dp.reads I _ y u he ry
    exact in_list_data r2 r1 se sd (by have := Nat.min_le_right (PyData.depthAll ds) d.depth; omega) ⟨.bl _, H, I, rfl, q⟩
  · obtain ⟨bs, r2⟩ := Dp.reads I _ y u he ry
    exact in_tuple_data r2 r1 se sd (by have := Nat.min_le_right (PyData.depthAll ds) d.depth; omega) ⟨.bl _, H, I, rfl, q⟩
theorem op_niP (hu : X.A.units + 64 < cLine) : OpR X (compareOp .NotIn) (rInP X.K true) := by
  intro pins s σ H x y v u Q I rx ry h
  obtain ⟨d, ds, hd, he, sd, se, dd, q⟩ := h
  obtain ⟨as, r1⟩ := Dp.reads I d x v hd rx
  rcases he with he | he
  · obtain ⟨bs, r2⟩ := Dp.reads I _ y u he ry
    exact notIn_list_data r2 r1 se sd (by have := Nat.min_le_right (PyData.depthAll ds) d.depth; omega) ⟨.bl _, H, I, rfl, q⟩
  · obtain ⟨bs, r2⟩ := Dp.reads I _ y u he ry
    exact notIn_tuple_data r2 r1 se sd (by have := Nat.min_le_right (PyData.depthAll ds) d.depth; omega) ⟨.bl _, H, I, rfl, q⟩
end
/-- the left and the right operand of == read as data: kinds im and lists -/
def DR {α : Type} [Py α] [DecidableEq α] [Pd α] (g : Gb) (k : α → RK) : Prop := ∀ a H v I' H', Same I' H' → RK.holds g (k a) H v I' H' → Dp g.K H' v (PySem.W.Datum.toD a)
section
variable {α β : Type} [Py α] [DecidableEq α] [Pd α] [Py β] [DecidableEq β] [Pd β] {g : Gb}
open PySem.W
theorem dr_im : DR (α := α) g (fun a => .im (Py.r g a)) := fun a H v I' H' s h => dp_mono s (Pd.dp h)
theorem dr_lr {k : List α → RK} (h : LR g k) : DR g k := fun a H v I' H' s q => by
  obtain ⟨l, vs, rfl, h1, h2⟩ := h a H v I' H' s q
  exact .lst h1 (dp_all ((rl g a).mono s h2).2)
variable {X : Cx} {B : Bs} {S : SL} {e e1 e2 e3 : Expr} {pos pos' : Pos} {m1 m2 : Option α} {k1 k2 : α → RK}
theorem mc_eq (hu : X.A.units + 64 < cLine) (hd : Datum.depth α ≤ 64) (h1 : ME X g B S e1 m1 k1) (h2 : ME X g B S e2 m2 k2) (r1 : DR g k1 := by first | exact dr_im | exact dr_lr lr_fr | exact dr_lr lr_rd) (r2 : DR g k2 := by first | exact dr_im | exact dr_lr lr_fr | exact dr_lr lr_rd)
    (hg : X.K = g.K := by rfl) : MC X g B S (.Compare e1 [.Eq] [e2] pos) (m1 >>= fun a => m2 >>= fun b => some (decide (a = b))) :=
  mc_cmp (op_eqP hu) h1 h2 (fun a b c q v w I H H0 H1 Q s v1 v2 k => by
    cases q
    refine ⟨_, _, by rw [hg]; exact r1 a _ _ _ _ s v1, by rw [hg]; exact r2 b _ _ _ _ s v2, Datum.plain a, Datum.plain b, Nat.le_trans (Datum.depth_le a) hd, ?_⟩
    rw [Datum.eqv]
    exact k _ _ _ (Ext.refl s) rfl) (nomark _)
theorem mc_ne (hu : X.A.units + 64 < cLine) (hd : Datum.depth α ≤ 64) (h1 : ME X g B S e1 m1 k1) (h2 : ME X g B S e2 m2 k2) (r1 : DR g k1 := by first | exact dr_im | exact dr_lr lr_fr | exact dr_lr lr_rd) (r2 : DR g k2 := by first | exact dr_im | exact dr_lr lr_fr | exact dr_lr lr_rd)
    (hg : X.K = g.K := by rfl) : MC X g B S (.Compare e1 [.NotEq] [e2] pos) (m1 >>= fun a => m2 >>= fun b => some (!decide (a = b))) :=
  mc_cmp (op_neP hu) h1 h2 (fun a b c q v w I H H0 H1 Q s v1 v2 k => by
    cases q
    refine ⟨_, _, by rw [hg]; exact r1 a _ _ _ _ s v1, by rw [hg]; exact r2 b _ _ _ _ s v2, Datum.plain a, Datum.plain b, Nat.le_trans (Datum.depth_le a) hd, ?_⟩
    rw [Datum.eqv]
    exact k _ _ _ (Ext.refl s) rfl) (nomark _)
theorem any_dec (a : α) : ∀ xs : List α, ((xs.map Datum.toD).any fun y => PyData.eqv y (Datum.toD a)) = decide (a ∈ xs)
  | [] => by simp
  | x :: xs => by
    rw [List.map_cons, List.any_cons, any_dec a xs, Datum.eqv, Bool.eq_iff_iff, Bool.or_eq_true, decide_eq_true_eq, decide_eq_true_eq, decide_eq_true_eq, List.mem_cons]
    exact ⟨fun h => h.imp (fun z => z.symm) id, fun h => h.imp (fun z => z.symm) id⟩
theorem mc_in {m2 : Option (List α)} {k2 : List α → RK} (hu : X.A.units + 64 < cLine) (hd : Datum.depth α ≤ 62) (h1 : ME X g B S e1 m1 k1) (h2 : ME X g B S e2 m2 k2) (r1 : DR g k1 := by first | exact dr_im | exact dr_lr lr_fr | exact dr_lr lr_rd) (r2 : LR g k2 := by first | exact lr_im | exact lr_fr | exact lr_rd)
    (hm : behindInMarks .In e2 = false := by rfl) (hg : X.K = g.K := by rfl) : MC X g B S (.Compare e1 [.In] [e2] pos) (m1 >>= fun a => m2 >>= fun b => some (decide (a ∈ b))) :=
  mc_cmp (op_inP hu) h1 h2 (fun a b c q v w I H H0 H1 Q s v1 v2 k => by
    cases q
    obtain ⟨l, vs, rfl, h1, h2⟩ := r2 b _ _ _ _ s v2
    refine ⟨_, b.map Datum.toD, by rw [hg]; exact r1 a _ _ _ _ s v1, .inl (by rw [hg]; exact .lst h1 (dp_all ((rl g b).mono s h2).2)), Datum.plain a, plain_all b, Nat.le_trans (Datum.depth_le a) hd, ?_⟩
    show Q (.bl _) H
    rw [if_neg Bool.false_ne_true, any_dec]
    exact k _ _ _ (Ext.refl s) rfl) hm
theorem mc_ni {m2 : Option (List α)} {k2 : List α → RK} (hu : X.A.units + 64 < cLine) (hd : Datum.depth α ≤ 62) (h1 : ME X g B S e1 m1 k1) (h2 : ME X g B S e2 m2 k2) (r1 : DR g k1 := by first | exact dr_im | exact dr_lr lr_fr | exact dr_lr lr_rd) (r2 : LR g k2 := by first | exact lr_im | exact lr_fr | exact lr_rd)
    (hm : behindInMarks .NotIn e2 = false := by rfl) (hg : X.K = g.K := by rfl) : MC X g B S (.Compare e1 [.NotIn] [e2] pos) (m1 >>= fun a => m2 >>= fun b => some (!decide (a ∈ b))) :=
  mc_cmp (op_niP hu) h1 h2 (fun a b c q v w I H H0 H1 Q s v1 v2 k => by
    cases q
    obtain ⟨l, vs, rfl, h1, h2⟩ := r2 b _ _ _ _ s v2
    refine ⟨_, b.map Datum.toD, by rw [hg]; exact r1 a _ _ _ _ s v1, .inl (by rw [hg]; exact .lst h1 (dp_all ((rl g b).mono s h2).2)), Datum.plain a, plain_all b, Nat.le_trans (Datum.depth_le a) hd, ?_⟩
    show Q (.bl (!_)) H
    rw [any_dec]
    exact k _ _ _ (Ext.refl s) rfl) hm
end
end T
set_option Elab.async false
set_option linter.all false
set_option maxRecDepth 100000
namespace T
variable [TabsC]
open PySem PySem.Spec PyProof.Rows L2

/-- never None -/
class Nz (α : Type) [Py α] : Prop where
  nz : ∀ {g : Gb} {a : α} {I : Hp} {v : V}, (Py.r g a).p I v → v ≠ .non
instance : Nz Int := ⟨fun h z => by cases h; cases z⟩
instance : Nz Bool := ⟨fun h z => by cases h; cases z⟩
instance : Nz Str := ⟨fun h z => by cases h; cases z⟩
instance {α : Type} [Py α] : Nz (List α) := ⟨fun h z => by obtain ⟨_, _, rfl, _⟩ := h; cases z⟩
instance {α β : Type} [Py α] [Py β] : Nz (T2 α β) := ⟨fun h z => by obtain ⟨_, _, _, rfl, _⟩ := h; cases z⟩
instance {α β γ : Type} [Py α] [Py β] [Py γ] : Nz (T3 α β γ) := ⟨fun h z => by obtain ⟨_, _, _, _, rfl, _⟩ := h; cases z⟩
instance {α β γ δ : Type} [Py α] [Py β] [Py γ] [Py δ] : Nz (T4 α β γ δ) := ⟨fun h z => by obtain ⟨_, _, _, _, _, rfl, _⟩ := h; cases z⟩

section
variable {X : Cx} {g : Gb} {B : Bs} {S : SL} {e e1 e2 e3 : Expr} {es : List Expr} {pos pos' : Pos} {α β γ δ : Type} [Py α] [Py β] [Py γ] [Py δ]
/-! tests -/
theorem mt_val {m : Option Bool} (h : ME X g B S e m (KI g)) (he : ∀ whole, isTrue e X.env whole = (do let v ← whole; standAt e.pos; holding [v] (truthy v)) := by intro _; rfl) : MT X g B S e m :=
  ⟨fun b q => pt_imp (pt_val (h.run b q) he) fun σ H Q ⟨I, hh, k⟩ => ⟨I, hh, fun v I' H' x hv => ⟨b, hv, k I' H' x⟩⟩⟩
theorem mt_not {m : Option Bool} (h : MT X g B S e m) : MT X g B S (.UnaryOp .Not e pos) (m >>= fun b => some (!b)) := by
  refine ⟨fun b q => ?_⟩
  obtain ⟨c, q1, q2⟩ := bind_some q
  cases q2
  exact pt_imp (pt_not (h.run c q1)) fun σ H Q ⟨I, hh, k⟩ => ⟨I, hh, fun I' H' x => k I' H' x⟩
theorem mw_and1 {m : Option Bool} (h : MT X g B S e m) : MW X g B S (.BoolOp .And [e] pos) m := ⟨fun b q => pw_and1 (h.run b q)⟩
theorem mw_or1 {m : Option Bool} (h : MT X g B S e m) : MW X g B S (.BoolOp .Or [e] pos) m := ⟨fun b q => pw_or1 (h.run b q)⟩
theorem mw_and {m1 m2 : Option Bool} (h1 : MT X g B S e1 m1) (h2 : MW X g B S (.BoolOp .And (e2 :: es) pos) m2) : MW X g B S (.BoolOp .And (e1 :: e2 :: es) pos) (m1 >>= fun c => if c = true then m2 else some false) := by
  refine ⟨fun b q => ?_⟩
  obtain ⟨c, q1, q2⟩ := bind_some q
  cases c with
  | true =>
    rw [if_pos rfl] at q2
    refine pw_imp (pw_and (h1.run _ q1) (h2.run _ q2)) fun σ H Q ⟨I, hh, k⟩ => ⟨I, hh, fun I1 H1 x1 => ?_⟩
    exact iteT ⟨I1, hh.ext x1, fun I2 H2 x2 => k I2 H2 (x1.trans x2)⟩
  | false =>
    rw [if_neg Bool.false_ne_true] at q2
    cases q2
    refine pw_imp (pw_and (tB' := fun _ _ _ => False) (h1.run _ q1) ⟨fun _ _ _ _ _ _ _ z => z.elim⟩) fun σ H Q ⟨I, hh, k⟩ => ⟨I, hh, fun I1 H1 x1 => ?_⟩
    exact iteF (k I1 H1 x1)
theorem mw_or {m1 m2 : Option Bool} (h1 : MT X g B S e1 m1) (h2 : MW X g B S (.BoolOp .Or (e2 :: es) pos) m2) : MW X g B S (.BoolOp .Or (e1 :: e2 :: es) pos) (m1 >>= fun c => if c = true then some true else m2) := by
  refine ⟨fun b q => ?_⟩
  obtain ⟨c, q1, q2⟩ := bind_some q
  cases c with
  | false =>
    rw [if_neg Bool.false_ne_true] at q2
    refine pw_imp (pw_or (h1.run _ q1) (h2.run _ q2)) fun σ H Q ⟨I, hh, k⟩ => ⟨I, hh, fun I1 H1 x1 => ?_⟩
    exact iteF ⟨I1, hh.ext x1, fun I2 H2 x2 => k I2 H2 (x1.trans x2)⟩
  | true =>
    rw [if_pos rfl] at q2
    cases q2
    refine pw_imp (pw_or (tB' := fun _ _ _ => False) (h1.run _ q1) ⟨fun _ _ _ _ _ _ _ z => z.elim⟩) fun σ H Q ⟨I, hh, k⟩ => ⟨I, hh, fun I1 H1 x1 => ?_⟩
    exact iteT (k I1 H1 x1)
theorem MW.eq {m m' : Option Bool} (h : MW X g B S e m) (q : m = m') : MW X g B S e m' := q ▸ h
theorem mw_andP {a b : Bool} (h1 : MT X g B S e1 (some a)) (h2 : MW X g B S (.BoolOp .And (e2 :: es) pos) (some b)) : MW X g B S (.BoolOp .And (e1 :: e2 :: es) pos) (some (a && b)) := (mw_and h1 h2).eq (by cases a <;> rfl)
theorem mw_orP {a b : Bool} (h1 : MT X g B S e1 (some a)) (h2 : MW X g B S (.BoolOp .Or (e2 :: es) pos) (some b)) : MW X g B S (.BoolOp .Or (e1 :: e2 :: es) pos) (some (a || b)) := (mw_or h1 h2).eq (by cases a <;> rfl)
theorem mt_w {m : Option Bool} (h : MW X g B S e m) : MT X g B S e m := ⟨fun b q => (h.run b q).pt⟩
/-- and, or, not as values -/
theorem me_one {op} {m : Option Bool} (h : ME X g B S e m (KI g)) : ME X g B S (.BoolOp op [e] pos) m (KI g) := ⟨fun b q => pe_one (h.run b q)⟩
theorem me_and {m1 m2 : Option Bool} (h1 : ME X g B S e1 m1 (KI g)) (h2 : ME X g B S (.BoolOp .And (e2 :: es) pos) m2 (KI g)) : ME X g B S (.BoolOp .And (e1 :: e2 :: es) pos) (m1 >>= fun c => if c = true then m2 else some false) (KI g) := by
  refine ⟨fun b q => ?_⟩
  obtain ⟨c, q1, q2⟩ := bind_some q
  cases c with
  | true =>
    rw [if_pos rfl] at q2
    refine pe_imp (pe_and (h1.run _ q1) (h2.run _ q2)) fun σ H Q ⟨I, hh, k⟩ => ⟨I, hh, fun v I1 H1 x1 hv => ⟨true, hv, ?_⟩⟩
    exact iteT ⟨I1, hh.ext x1, fun w I2 H2 x2 hw => k w I2 H2 (x1.trans x2) hw⟩
  | false =>
    rw [if_neg Bool.false_ne_true] at q2
    cases q2
    refine pe_imp (pe_and (tb := fun _ _ _ => False) (h1.run _ q1) ⟨fun _ _ _ _ _ _ z => z.elim⟩) fun σ H Q ⟨I, hh, k⟩ => ⟨I, hh, fun v I1 H1 x1 hv => ⟨false, hv, ?_⟩⟩
    exact iteF (k _ I1 H1 x1 rfl)
theorem me_or {m1 m2 : Option Bool} (h1 : ME X g B S e1 m1 (KI g)) (h2 : ME X g B S (.BoolOp .Or (e2 :: es) pos) m2 (KI g)) : ME X g B S (.BoolOp .Or (e1 :: e2 :: es) pos) (m1 >>= fun c => if c = true then some true else m2) (KI g) := by
  refine ⟨fun b q => ?_⟩
  obtain ⟨c, q1, q2⟩ := bind_some q
  cases c with
  | false =>
    rw [if_neg Bool.false_ne_true] at q2
    refine pe_imp (pe_or (h1.run _ q1) (h2.run _ q2)) fun σ H Q ⟨I, hh, k⟩ => ⟨I, hh, fun v I1 H1 x1 hv => ⟨false, hv, ?_⟩⟩
    exact iteF ⟨I1, hh.ext x1, fun w I2 H2 x2 hw => k w I2 H2 (x1.trans x2) hw⟩
  | true =>
    rw [if_pos rfl] at q2
    cases q2
    refine pe_imp (pe_or (tb := fun _ _ _ => False) (h1.run _ q1) ⟨fun _ _ _ _ _ _ z => z.elim⟩) fun σ H Q ⟨I, hh, k⟩ => ⟨I, hh, fun v I1 H1 x1 hv => ⟨true, hv, ?_⟩⟩
    exact iteT (k _ I1 H1 x1 rfl)
theorem me_not {m : Option Bool} (h : ME X g B S e m (KI g)) : ME X g B S (.UnaryOp .Not e pos) (m >>= fun b => some (!b)) (KI g) := by
  refine ⟨fun b q => ?_⟩
  obtain ⟨c, q1, q2⟩ := bind_some q
  cases q2
  exact pe_imp (pe_not (h.run c q1)) fun σ H Q ⟨I, hh, k⟩ => ⟨I, hh, fun v I' H' x hv => ⟨c, hv, k _ I' H' x rfl⟩⟩
/-- is None, is not None -/
theorem mc_isN [Nz α] {j} {m : Option (Option α)} (h : ME X g B S e m (KI g)) : MC X g B S (.Compare e [.Is] [.Constant .none j pos'] pos) (m >>= fun o => some o.isNone) :=
  (mc_cmp op_isN h (me_unit (j := j) (pos := pos')) (f := fun o _ => some o.isNone) fun o _ c q v w I H H0 H1 Q s hv hw k => by
    cases q
    refine ⟨hw, ?_⟩
    cases o with
    | none =>
      cases hv
      exact k _ _ _ (Ext.refl s) rfl
    | some a =>
      rw [decide_eq_false (Nz.nz (α := α) hv)]
      exact k _ _ _ (Ext.refl s) rfl).eq (by cases m <;> rfl)
theorem mc_ntN [Nz α] {j} {m : Option (Option α)} (h : ME X g B S e m (KI g)) : MC X g B S (.Compare e [.IsNot] [.Constant .none j pos'] pos) (m >>= fun o => some o.isSome) :=
  (mc_cmp op_notN h (me_unit (j := j) (pos := pos')) (f := fun o _ => some o.isSome) fun o _ c q v w I H H0 H1 Q s hv hw k => by
    cases q
    refine ⟨hw, ?_⟩
    cases o with
    | none =>
      cases hv
      exact k _ _ _ (Ext.refl s) rfl
    | some a =>
      rw [decide_eq_false (Nz.nz (α := α) hv)]
      exact k _ _ _ (Ext.refl s) rfl).eq (by cases m <;> rfl)
theorem me_if {a' : Type} {mc : Option Bool} {m1 m2 : Option a'} {k : a' → RK} (hc : MT X g B S e mc) (h1 : ME X g B S e1 m1 k) (h2 : ME X g B S e2 m2 k) (hb : ∀ c, (k c).isB = false := by intro _; rfl) : ME X g B S (.IfExp e e1 e2 pos) (mc >>= fun b => if b = true then m1 else m2) k := by
  refine ⟨fun r q => ?_⟩
  obtain ⟨c, q1, q2⟩ := bind_some q
  cases c with
  | true =>
    rw [if_pos rfl] at q2
    refine pe_imp (pe_ifExp (tb := fun _ _ _ => False) (hc.run _ q1) (h1.run _ q2) ⟨fun _ _ _ _ _ _ z => z.elim⟩) fun σ H Q ⟨I, hh, k⟩ => ⟨I, hh, fun I1 H1 x1 => ?_⟩
    exact iteT ⟨I1, hh.ext x1, fun w I2 H2 x2 hw => k w I2 H2 (x1.trans x2) (RK.back (hb r) x1.h hw)⟩
  | false =>
    rw [if_neg Bool.false_ne_true] at q2
    refine pe_imp (pe_ifExp (ta := fun _ _ _ => False) (hc.run _ q1) ⟨fun _ _ _ _ _ _ z => z.elim⟩ (h2.run _ q2)) fun σ H Q ⟨I, hh, k⟩ => ⟨I, hh, fun I1 H1 x1 => ?_⟩
    exact iteF ⟨I1, hh.ext x1, fun w I2 H2 x2 hw => k w I2 H2 (x1.trans x2) (RK.back (hb r) x1.h hw)⟩
end

/-! arguments -/
def Args (g : Gb) (ks : List RK) (vs : List V) (I H : Hp) : Prop := Paired (fun k v => RK.holds g k H v I H) ks vs
def rdA {ι o : Type} (g : Gb) (B : Bs) (S : SL) (dvs : List V) (args : ι → List RK) (M : ι → Option o) (r : o) : TA := fun σ H Q => ∃ I, Hold g B S σ I H ∧ ∀ a vs I' H', M a = some r → Ext I H I' H' → Args g (args a) (vs ++ dvs) I' H' → Q vs H'
structure MA {ι o : Type} (X : Cx) (g : Gb) (B : Bs) (S : SL) (es : List Expr) (dvs : List V) (args : ι → List RK) (m : Option o) (M : ι → Option o) : Prop where
  run : ∀ r, m = some r → PA X es (rdA g B S dvs args M r)
def Coe {α : Type} (g : Gb) (k k' : α → RK) : Prop := ∀ a H0 v I H, Same I H → RK.holds g (k a) H0 v I H → RK.holds g (k' a) H v I H
section
variable {X : Cx} {g : Gb} {B : Bs} {S : SL} {e e1 e2 e3 : Expr} {es : List Expr} {pos pos' : Pos} {α β γ δ : Type} [Py α] [Py β] [Py γ] [Py δ]
theorem co_im : Coe (α := α) g (KI g) (KI g) := fun _ _ _ _ _ _ h => h
theorem co_bw {k : List α → RK} (h : LR g k) : Coe g k (fun a => .bw (rl g a)) := fun a H0 v I H s q => h a H0 v I H s q
theorem pa_imp {t t' : TA} (h : PA X es t) (f : ∀ σ H Q, t' σ H Q → t σ H Q) : PA X es t' := ⟨fun pos pins s σ H Q I hw => h.run pos pins s σ H Q I (f σ H Q hw)⟩
theorem ma_nil {o : Type} {M : Unit → Option o} : MA X g B S [] [] (fun _ : Unit => []) (M ()) M :=
  ⟨fun r q => pa_imp pa_nil fun σ H Q ⟨I, hh, k⟩ => k () [] I H q (Ext.refl hh.sub) .nil⟩
/-- the rest by defaults -/
theorem ma_dfl {ι o : Type} {dvs : List V} {args : ι → List RK} {M : ι → Option o} (a : ι) (h : ∀ I H, Args g (args a) dvs I H) : MA X g B S [] dvs args (M a) M :=
  ⟨fun r q => pa_imp pa_nil fun σ H Q ⟨I, hh, k⟩ => k a [] I H q (Ext.refl hh.sub) (h I H)⟩
theorem ma_cons {ι o α' : Type} {dvs : List V} {args : ι → List RK} {m1 : Option α'} {m2 : α' → Option o} {M : α' × ι → Option o} {k k' : α' → RK} (h : ME X g B S e m1 k) (c : Coe g k k') (t : ∀ a, MA X g B S es dvs args (m2 a) (fun b => M (a, b)))
    (hs : starEach (e :: es) X.env = (false, eval e X.env) :: starEach es X.env := by rfl) : MA X g B S (e :: es) dvs (fun p : α' × ι => k' p.1 :: args p.2) (m1 >>= m2) M := by
  refine ⟨fun r q => ?_⟩
  obtain ⟨a, q1, q2⟩ := bind_some q
  refine pa_imp (pa_cons (h.run a q1) ((t a).run r q2) hs) fun σ H Q ⟨I, hh, kk⟩ => ⟨I, hh, fun v I1 H1 x1 v1 => ⟨I1, hh.ext x1, fun b vs I2 H2 hM x2 hA => ?_⟩⟩
  exact kk (a, b) (v :: vs) I2 H2 hM (x1.trans x2) (.cons (c a _ _ _ _ x2.s (RK.ext v1 x2 hh.tb.has)) hA)
end
/-! the promise of a def: a typed one -/
def spT {ι β : Type} (g : Gb) (args : ι → List RK) (M : ι → Option β) (k : β → RK) : Sp := fun vs H Q _ => ∃ I a r, Same I H ∧ TbI I H ∧ Args g (args a) vs I H ∧ M a = some r ∧ ∀ v I' H', Ext I H I' H' → RK.holds g (k r) H v I' H' → Q v H'
section
variable {X : Cx} {g : Gb} {B : Bs} {S : SL} {e e1 e2 e3 : Expr} {es : List Expr} {pos pos' p : Pos} {ι β : Type} {args : ι → List RK} {M : ι → Option β} {k : β → RK} {m : Option β} {j kk : Nat} {f : Addr} {fd : FuncData} {ps : List Str} {x : Str} {dvs : List V} {ds : List Value}
theorem sp_use {H : Hp} {I : Hp} {Q : VK} {a : ι} {r : β} {vs : List V} (s : Same I H) (t : TbI I H) (hA : Args g (args a) vs I H) (hM : M a = some r) (q : ∀ v I' H', Ext I H I' H' → RK.holds g (k r) H v I' H' → Q v H') {E : XK} : spT g args M k vs H Q E := ⟨I, a, r, s, t, hA, hM, q⟩
theorem me_call (F : FnOk X.prog X.w X.K X.mg X.base CX0 j f fd ps (spT g args M k)) (hr : Room kk X.A) (hj : j ≤ kk) (hm : X.mg x = some (.ref f)) (hk : PySem.W.keepIn X.K (.ref f) = true) (hb : Binds X.K fd ps ds) (hd : Vals dvs ds)
    (ha : MA X g B S (e :: es) dvs args m M) (hg : Gl X x := by rfl) (hdb : (x == ("__debug__" : Str)) = false := by decide) (he : starEach (e :: es) X.env = (false, eval e X.env) :: starEach es X.env := by rfl) (hpl : (backTo pos (starEach es X.env)).any (·.1) = false := by rfl)
    (hbw : ∀ c, (k c).isB = false := by intro _; rfl) :
    ME X g B S (.Call (.Name x p) (e :: es) [] pos) m k := by
  refine ⟨fun r q => ?_⟩
  refine pe_imp (pe_call F (hr.mono hj) hg hm hk hb hd pass0 (ha.run r q) hdb he hpl) fun σ H Q ⟨I, hh, kc⟩ => ⟨I, hh, fun a vs I1 H1 hM x1 hA => ?_⟩
  exact sp_use x1.s (hh.tb.ext x1).to hA hM fun v I2 H2 x2 hv => kc v I2 H2 (x1.trans x2) (RK.back (hbw r) x1.h hv)
end
end T
set_option Elab.async false
set_option linter.all false
set_option maxRecDepth 100000
namespace T
variable [TabsC]
open PySem PySem.Spec PyProof.Rows L2

/-! blocks -/
/-- a base whose part that stays is known to hold J too -/
structure Ok (g : Gb) (B : Bs) (J : Hp) (S : SL) (σ : L2.St) (I H : Hp) : Prop where
  x : Ext B.I B.H I H
  j : Same J I
  h : Hold g B S σ I H
theorem Ok.ext {g : Gb} {B : Bs} {J : Hp} {S : SL} {σ : L2.St} {I H I' H' : Hp} (o : Ok g B J S σ I H) (x : Ext I H I' H') : Ok g B J S σ I' H' := ⟨o.x.trans x, o.j.trans x.i, o.h.ext x⟩
theorem Ok.put {g : Gb} {B : Bs} {J : Hp} {S : SL} {σ : L2.St} {I H I' H' : Hp} {i : Nat} {k : RK} {v : V} (o : Ok g B J S σ I H) (x : Ext I H I' H') (hk : k.slotty = true) (hv : RK.holds g k H v I' H') : Ok g B J (S.set i (some k)) (σ.set i (some v)) I' H' :=
  ⟨o.x.trans x, o.j.trans x.i, o.h.put x hk hv⟩
/-- less is known -/
inductive Wk : SL → SL → Prop
  | nil : Wk [] []
  | keep {k : Option RK} {S T : SL} : Wk S T → Wk (k :: S) (k :: T)
  | drop {k : Option RK} {S T : SL} : Wk S T → Wk (k :: S) (none :: T)
theorem Wk.len : ∀ {S T : SL}, Wk S T → S.length = T.length
  | _, _, .nil => rfl
  | _, _, .keep h => congrArg (· + 1) h.len
  | _, _, .drop h => congrArg (· + 1) h.len
theorem Wk.get : ∀ {S T : SL}, Wk S T → ∀ {i : Nat} {k : RK}, T[i]? = some (some k) → S[i]? = some (some k)
  | _, _, .nil, i, k, e => e
  | _, _, .keep h, 0, k, e => e
  | _, _, .keep h, i + 1, k, e => h.get (i := i) (by simpa using e)
  | _, _, .drop h, 0, k, e => by simp at e
  | _, _, .drop h, i + 1, k, e => h.get (i := i) (by simpa using e)
theorem Hold.wk {g : Gb} {B : Bs} {S T : SL} {σ : L2.St} {I H : Hp} (w : Wk S T) (h : Hold g B S σ I H) : Hold g B T σ I H :=
  h.elim fun Φ h => ⟨Φ, h.len.trans w.len, h.sub, h.base, h.tb, fun i k e => h.at_ i k (w.get e), h.fr, h.dj⟩
theorem Ok.wk {g : Gb} {B : Bs} {J : Hp} {S T : SL} {σ : L2.St} {I H : Hp} (w : Wk S T) (o : Ok g B J S σ I H) : Ok g B J T σ I H := ⟨o.x, o.j, o.h.wk w⟩
/-- what is to follow an outcome -/
abbrev KT (o : Type) := o → Ends → Prop
structure MB {o : Type} (X : Cx) (g : Gb) (B : Bs) (J : Hp) (S : SL) (sts : List Stmt) (m : Option o) (K : KT o) : Prop where
  run : ∀ r, m = some r → PSs X sts (fun D σ H => ∃ I, Ok g B J S σ I H ∧ K r D)
theorem MB.eq {o : Type} {X : Cx} {g : Gb} {B : Bs} {J : Hp} {S : SL} {sts : List Stmt} {m m' : Option o} {K : KT o} (h : MB X g B J S sts m K) (e : m = m') : MB X g B J S sts m' K := e ▸ h
theorem pss_imp {X : Cx} {sts : List Stmt} {t t' : TS} (h : PSs X sts t) (f : ∀ D σ H, t' D σ H → t D σ H) : PSs X sts t' := ⟨fun pins s σ H D I hw => h.run pins s σ H D I (f D σ H hw)⟩
/-- the def hands back a value; a block goes on; a turn of a loop -/
def Kt {β : Type} (g : Gb) (B : Bs) (k : β → RK) : KT β := fun r D => ∀ v I' H', Ext B.I B.H I' H' → RK.holds g (k r) B.H v I' H' → D.rt v H'
def Kn {β : Type} (g : Gb) (B : Bs) (J : Hp) (S' : β → SL) : KT β := fun b D => ∀ σ I H, Ok g B J (S' b) σ I H → D.nx σ H
inductive Ctl (β γ ρ : Type) where
  | nx (b : β) | rt (r : ρ) | ct (c : γ) | bk (c : γ)
def Kc {β γ ρ : Type} (g : Gb) (B : Bs) (J : Hp) (S' : β → SL) (T' : γ → SL) (k : ρ → RK) : KT (Ctl β γ ρ) := fun c D => match c with
  | .nx b => ∀ σ I H, Ok g B J (S' b) σ I H → D.nx σ H
  | .rt r => ∀ v I' H', Ext B.I B.H I' H' → RK.holds g (k r) B.H v I' H' → D.rt v H'
  | .ct b => ∀ σ I H, Ok g B J (T' b) σ I H → D.ct σ H
  | .bk b => ∀ σ I H, Ok g B J (T' b) σ I H → D.bk σ H
/-- what follows a statement that may leave: within a loop's turn; in a def -/
def Ctl.seq {β β2 γ ρ : Type} (f : β → Option (Ctl β2 γ ρ)) : Ctl β γ ρ → Option (Ctl β2 γ ρ)
  | .nx b => f b
  | .rt r => some (.rt r)
  | .ct c => some (.ct c)
  | .bk c => some (.bk c)
def Ctl.seqT {β γ ρ : Type} (f : β → Option ρ) : Ctl β γ ρ → Option ρ
  | .nx b => f b
  | .rt r => some r
  | .ct _ => none
  | .bk _ => none
def Ctl.isNx {β γ ρ : Type} : Ctl β γ ρ → Bool
  | .nx _ => true
  | _ => false
/-- K hands back r's value at (inj r) -/
def KR {ρ o : Type} (g : Gb) (B : Bs) (K : KT o) (inj : ρ → o) (k : ρ → RK) : Prop := ∀ r D, K (inj r) D → ∀ v I' H', Ext B.I B.H I' H' → RK.holds g (k r) B.H v I' H' → D.rt v H'
/-- K goes on in S' at (inj b) -/
def KX {β o : Type} (g : Gb) (B : Bs) (J : Hp) (K : KT o) (inj : β → o) (S' : β → SL) : Prop := ∀ b D, K (inj b) D → ∀ σ I H, Ok g B J (S' b) σ I H → D.nx σ H
section
variable {X : Cx} {g : Gb} {B : Bs} {J : Hp} {S : SL} {e e1 e2 e3 : Expr} {es : List Expr} {pos pos' p : Pos} {o α' β γ ρ : Type} {K : KT o} {rest : List Stmt}
theorem kr_t {k : ρ → RK} : KR g B (Kt g B k) (fun r => r) k := fun _ _ h => h
theorem kr_c {k : ρ → RK} {S' : β → SL} {T' : γ → SL} : KR g B (Kc g B J S' T' k) (fun r => Ctl.rt r) k := fun _ _ h => h
theorem kx_n {S' : β → SL} : KX g B J (Kn g B J S') (fun b => b) S' := fun _ _ h => h
theorem kx_c {k : ρ → RK} {S' : β → SL} {T' : γ → SL} : KX g B J (Kc g B J S' T' k) (fun b => Ctl.nx b) S' := fun _ _ h => h
/-- the end of a block -/
theorem mb_nil {b : β} {S' : β → SL} {inj : β → o} (kx : KX g B J K inj S') (w : Wk S (S' b)) : MB X g B J S [] (some (inj b)) K := by
  refine ⟨fun r q => ?_⟩
  cases q
  exact pss_imp pss_nil fun D σ H ⟨I, ok, k⟩ => kx b D k σ I H (ok.wk w)
/-- name = e -/
theorem mb_set (i : Nat) {x : Str} {m : Option α'} {k : α' → RK} {f : α' → Option o} (hN : X.N.Nodup) (he : ME X g B S e m k) (hb : ∀ a, MB X g B J (S.set i (some (k a))) rest (f a) K) (hk : ∀ a, (k a).slotty = true := by intro _; rfl)
    (hi : X.N[i]? = some x := by rfl) (hx : Loc X.env.scope x := by first | exact Or.inl rfl | exact Or.inr rfl) (hs : swapsWith e (some (.Name x pos')) pos.line X.env = pure false := by rfl)
    (hf : X.fn x = true ∨ X.env.scope.names.lookup x = some .local := by first | exact .inl rfl | exact .inr rfl) : MB X g B J S (.Assign [.Name x pos'] e pos :: rest) (m >>= f) K := by
  refine ⟨fun r q => ?_⟩
  obtain ⟨a, q1, q2⟩ := bind_some q
  refine pss_imp (pss_cons (ps_set hN hi hx (he.run a q1) hs hf) ((hb a).run r q2)) fun D σ H ⟨I, ok, kk⟩ => ?_
  exact ⟨I, ok.h, fun v I' H' x1 hv => ⟨I', ok.put x1 (hk a) hv, kk⟩⟩
/-- return e -/
theorem mb_ret {m : Option ρ} {k : ρ → RK} {inj : ρ → o} (kr : KR g B K inj k) (he : ME X g B S e m k) (hb : ∀ c, (k c).isB = false := by intro _; rfl) : MB X g B J S [.Return (some e) pos] (m >>= fun r => some (inj r)) K := by
  refine ⟨fun r q => ?_⟩
  obtain ⟨a, q1, q2⟩ := bind_some q
  cases q2
  refine pss_imp (pss_one (ps_ret (he.run a q1))) fun D σ H ⟨I, ok, kk⟩ => ?_
  exact ⟨I, ok.h, fun v I' H' x1 hv => kr a D kk v I' H' (ok.x.trans x1) (RK.back (hb a) ok.x.h hv)⟩
theorem mb_retT {m : Option ρ} {k : ρ → RK} (he : ME X g B S e m k) (hb : ∀ c, (k c).isB = false := by intro _; rfl) : MB X g B J S [.Return (some e) pos] m (Kt g B k) :=
  (mb_ret kr_t he hb).eq (by cases m <;> rfl)
/-- return an owned list -/
theorem mb_retO {α : Type} [Py α] (i : Nat) {x : Str} {as : List α} {inj : List α → o} (kr : KR g B K inj (fun as => .fr (rl g as))) (hS : S[i]? = some (some (.fr (rl g as))) := by rfl) (hN : X.N[i]? = some x := by rfl) (hv : Vis X.env.scope x := by first | exact Or.inl rfl | exact Or.inr (Or.inl rfl) | exact Or.inr (Or.inr rfl))
    (hd : (x == ("__debug__" : Str)) = false := by decide) (hcd : (x == ("__classdict__" : Str)) = false := by decide) : MB X g B J S [.Return (some (.Name x p)) pos] (some (inj as)) K := by
  refine ⟨fun r q => ?_⟩
  cases q
  refine pss_imp (pss_one (ps_ret (pe_var hN hv hd hcd))) fun D σ H ⟨I, ok, kk⟩ => ?_
  obtain ⟨v, e1, h1⟩ := ok.h.at_ i _ hS
  exact ⟨v, e1, kr as D kk v I H ok.x h1⟩
theorem mb_cnt {b : γ} {k : ρ → RK} {S' : β → SL} {T' : γ → SL} (w : Wk S (T' b)) : MB X g B J S [.Continue pos] (some (Ctl.ct b)) (Kc g B J S' T' k) := by
  refine ⟨fun r q => ?_⟩
  cases q
  exact pss_imp (pss_one ps_continue) fun D σ H ⟨I, ok, kk⟩ => kk σ I H (ok.wk w)
/-- how an owned thing is let go: a thing that stays -/
def Frz (o : OR) (p : PR) : Prop := ∀ I F v, (∀ a, F a ≠ none → I a = none) → o.p I F v → p.p (Un I F) v
/-- the heap of both -/
theorem frz_ok {i : Nat} {o : OR} {r : PR} {σ : L2.St} {I H : Hp} (z : Frz o r) (ok : Ok g B J S σ I H) (hS : ∀ v F, ∃ k, S[i]? = some (some k) ∧ (RK.inS g k B.H v I F → o.p I F v)) : ∃ I', Ok g B J (S.set i (some (.im r))) σ I' H := by
  obtain ⟨x, oj, Φ, h⟩ := ok
  obtain ⟨k, hk, _⟩ := hS .non (Φ i)
  obtain ⟨v, e1, q⟩ := h.at_ i k hk
  obtain ⟨k', hk', c⟩ := hS v (Φ i)
  rw [hk] at hk'
  cases hk'
  have q2 := c q
  have hd : ∀ a, Φ i a ≠ none → I a = none := fun a ha => (h.ne ha).2.1
  have sI : Same I (Un I (Φ i)) := un_l hd
  have x2 : Ext B.I B.H (Un I (Φ i)) H := ⟨x.i.trans sI, x.h, fun b ob eb => (un_some eb).elim (fun e => (h.fr i b ob e).1) fun e => x.s _ _ e.2, fun b n1 n2 => by
    cases e : Φ i b with
    | none => rw [un_none e]; exact x.n b n1 n2
    | some ob => exact absurd (h.fr i b ob e).2.2 n1⟩
  refine ⟨Un I (Φ i), x2, oj.trans sI, putF Φ i (fun _ => none), ?_⟩
  have hσ : σ.set i (some v) = σ := by
    apply List.ext_getElem?
    intro j
    by_cases hj : i = j
    · subst hj
      rw [List.getElem?_set_self (List.getElem?_eq_some_iff.mp e1).1, e1]
    · rw [List.getElem?_set_ne hj]
  have h2 : HoldF g B (S.set i (some (.im r))) (σ.set i (some v)) (Un I (Φ i)) H (putF Φ i (fun _ => none)) := by
    refine ⟨by rw [List.length_set, List.length_set, h.len], x2.s, h.base, h.tb.un (h.noT i), fun j k' e => ?_, fun j a ob e => ?_, fun j l a hj hl => ?_⟩
    · rcases set_some e with ⟨a, b, c⟩ | ⟨a, b⟩
      · subst a
        cases b
        exact ⟨v, List.getElem?_set_self (by rw [h.len]; exact c), z I (Φ i) v hd q2⟩
      · obtain ⟨u, e2, q⟩ := h.at_ j k' b
        exact ⟨u, by rw [List.getElem?_set_ne a]; exact e2, by rw [putF_ne (fun z => a z.symm)]; exact RK.inS_mono sI q⟩
    · by_cases hji : j = i
      · rw [hji, putF_same] at e; cases e
      · rw [putF_ne hji] at e
        obtain ⟨f1, f2, f3⟩ := h.fr j a ob e
        refine ⟨f1, ?_, f3⟩
        rw [un_none]
        · exact f2
        · cases e4 : Φ i a with
          | none => rfl
          | some ou => exact absurd (h.dj j i a (ne_of_some e) (ne_of_some e4)) hji
    · by_cases hji : j = i
      · rw [hji, putF_same] at hj; exact absurd rfl hj
      · by_cases hli : l = i
        · rw [hli, putF_same] at hl; exact absurd rfl hl
        · rw [putF_ne hji] at hj
          rw [putF_ne hli] at hl
          exact h.dj j l a hj hl
  rw [hσ] at h2
  exact h2
theorem frz_list {α : Type} [Py α] {as : List α} {I F : Hp} {l : Addr} {vs : List V} (hd : ∀ a, F a ≠ none → I a = none) (h1 : F l = some (.lst vs)) (h2 : (rl g as).p I vs) : (Py.r g as).p (Un I F) (.ref l) :=
  ⟨l, vs, rfl, SqL.of (un_r h1), (rl g as).mono (un_l hd) h2⟩
theorem mb_frz {α : Type} [Py α] (i : Nat) {as : List α} {sts : List Stmt} {m : Option o} (hS : S[i]? = some (some (.fr (rl g as)))) (hb : MB X g B J (S.set i (some (.im (Py.r g as)))) sts m K) : MB X g B J S sts m K := by
  refine ⟨fun r q => ?_⟩
  refine pss_imp (hb.run r q) fun D σ H ⟨I, ok, kk⟩ => ?_
  obtain ⟨I', ok'⟩ := frz_ok (i := i) (o := ⟨fun I F v => ∃ l vs, v = .ref l ∧ F l = some (.lst vs) ∧ (rl g as).p I vs, fun s ⟨l, vs, e, h3, h4⟩ => ⟨l, vs, e, h3, (rl g as).mono s h4⟩⟩) (r := Py.r g as)
    (fun I F v hd ⟨l, vs, e, h1, h2⟩ => by subst e; exact frz_list hd h1 h2) ok fun v F => ⟨_, hS, fun q => q⟩
  exact ⟨I', ok', kk⟩
/-- if c: (ends) ; rest -/
theorem mb_ift {mc : Option Bool} {m1 m2 : Option o} {b1 : List Stmt} (hc : MT X g B S e mc) (h1 : MB X g B J S b1 m1 K) (h2 : MB X g B J S rest m2 K) (hK : ∀ r D nx, m1 = some r → K r D → K r { D with nx := nx }) : MB X g B J S (.If e b1 [] pos :: rest) (mc >>= fun b => if b = true then m1 else m2) K := by
  refine ⟨fun r q => ?_⟩
  obtain ⟨c, q1, q2⟩ := bind_some q
  cases c with
  | true =>
    rw [if_pos rfl] at q2
    exact pss_imp (pss_cons (ps_if (hc.run _ q1) (h1.run r q2) (pss_never (sts := []))) (pss_never (sts := rest))) fun D σ H ⟨I, ok, kk⟩ => ⟨I, ok.h, fun I1 H1 x1 => iteT ⟨I1, ok.ext x1, hK r D _ q2 kk⟩⟩
  | false =>
    rw [if_neg Bool.false_ne_true] at q2
    exact pss_imp (pss_cons (ps_if (hc.run _ q1) (pss_never (sts := b1)) pss_nil) (h2.run r q2)) fun D σ H ⟨I, ok, kk⟩ => ⟨I, ok.h, fun I1 H1 x1 => iteF ⟨I1, ok.ext x1, kk⟩⟩
theorem hk_t {k : ρ → RK} {m1 : Option ρ} : ∀ r D nx, m1 = some r → Kt g B k r D → Kt g B k r { D with nx := nx } := fun _ _ _ _ h => h
/-- a block that never ends by itself -/
def NoNx {β γ ρ : Type} (m : Option (Ctl β γ ρ)) : Prop := ∀ r, m = some r → r.isNx = false
theorem nn_rt {r : ρ} : NoNx (some (Ctl.rt r : Ctl β γ ρ)) := fun _ q => by cases q; rfl
theorem nn_ct {r : γ} : NoNx (some (Ctl.ct r : Ctl β γ ρ)) := fun _ q => by cases q; rfl
theorem nn_bk {r : γ} : NoNx (some (Ctl.bk r : Ctl β γ ρ)) := fun _ q => by cases q; rfl
theorem nn_bind {m : Option α'} {f : α' → Option (Ctl β γ ρ)} (h : ∀ a, NoNx (f a)) : NoNx (m >>= f) := fun r q => by
  obtain ⟨a, _, q2⟩ := bind_some q
  exact h a r q2
theorem nn_ite {c : Prop} [Decidable c] {m1 m2 : Option (Ctl β γ ρ)} (h1 : NoNx m1) (h2 : NoNx m2) : NoNx (if c then m1 else m2) := by
  split
  · exact h1
  · exact h2
theorem hk_c {k : ρ → RK} {S' : β → SL} {T' : γ → SL} {m1 : Option (Ctl β γ ρ)} (h : NoNx m1) : ∀ r D nx, m1 = some r → Kc g B J S' T' k r D → Kc g B J S' T' k r { D with nx := nx } := fun r D nx e q => by
  have z := h r e
  cases r with
  | nx b => cases z
  | rt r => exact q
  | ct c => exact q
  | bk c => exact q
/-- if c: b1 else: b2 ; rest: both ways go on -/
theorem mb_if {mc : Option Bool} {m1 m2 : Option β} {b1 b2 : List Stmt} {S' : β → SL} {f : β → Option o} (hc : MT X g B S e mc) (h1 : MB X g B J S b1 m1 (Kn g B J S')) (h2 : MB X g B J S b2 m2 (Kn g B J S')) (hb : ∀ b, MB X g B J (S' b) rest (f b) K) :
    MB X g B J S (.If e b1 b2 pos :: rest) (mc >>= fun b => (if b = true then m1 else m2) >>= f) K := by
  refine ⟨fun r q => ?_⟩
  obtain ⟨c, q1, q2⟩ := bind_some q
  obtain ⟨b, q2, q3⟩ := bind_some q2
  cases c with
  | true =>
    rw [if_pos rfl] at q2
    exact pss_imp (pss_cons (ps_if (hc.run _ q1) (h1.run b q2) (pss_never (sts := b2))) ((hb b).run r q3)) fun D σ H ⟨I, ok, kk⟩ => ⟨I, ok.h, fun I1 H1 x1 => iteT ⟨I1, ok.ext x1, fun σ2 I2 H2 ok2 => ⟨I2, ok2, kk⟩⟩⟩
  | false =>
    rw [if_neg Bool.false_ne_true] at q2
    exact pss_imp (pss_cons (ps_if (hc.run _ q1) (pss_never (sts := b1)) (h2.run b q2)) ((hb b).run r q3)) fun D σ H ⟨I, ok, kk⟩ => ⟨I, ok.h, fun I1 H1 x1 => iteF ⟨I1, ok.ext x1, fun σ2 I2 H2 ok2 => ⟨I2, ok2, kk⟩⟩⟩
end
end T
set_option Elab.async false
set_option linter.all false
set_option maxRecDepth 100000
namespace T
variable [TabsC]
open PySem PySem.Spec PyProof.Rows L2

/-! loops -/
def loopC {α γ ρ : Type} (f : γ → α → Option (Ctl γ γ ρ)) : List α → γ → Option (Ctl γ Empty ρ)
  | [], s => some (.nx s)
  | x :: xs, s => f s x >>= fun c => match c with
    | .nx s' => loopC f xs s'
    | .ct s' => loopC f xs s'
    | .rt r => some (.rt r)
    | .bk s' => some (.nx s')
def loopN {α γ : Type} (f : γ → α → Option γ) : List α → γ → Option γ
  | [], s => some s
  | x :: xs, s => f s x >>= fun s' => loopN f xs s'
/-- lo, lo + 1, .. -/
def rng (lo : Int) (n : Nat) : List Int := (List.range n).map fun (i : Nat) => lo + (i : Int)
theorem rng_get {lo : Int} {n i : Nat} (h : i < n) : (rng lo n)[i]? = some (lo + (i : Int)) := by
  unfold rng
  rw [List.getElem?_map, List.getElem?_range h]
  rfl
theorem rng_len {lo : Int} {n : Nat} : (rng lo n).length = n := by
  unfold rng
  rw [List.length_map, List.length_range]
def rngOk (i j : Int) : Bool := decide (-(2 ^ 62) ≤ i ∧ i < 2 ^ 62 ∧ -(2 ^ 62) ≤ j ∧ j < 2 ^ 62) && decide ((j - i).toNat ≤ sizeLine)
@[irreducible] def rng1O (n : Int) : Option (List Int) := if rngOk 0 n = true then some (rng 0 n.toNat) else none
@[irreducible] def rng2O (a b : Int) : Option (List Int) := if rngOk a b = true then some (rng a (b - a).toNat) else none
theorem rngOk_1 {i j : Int} (h : rngOk i j = true) : -(2 ^ 62) ≤ i ∧ i < 2 ^ 62 ∧ -(2 ^ 62) ≤ j ∧ j < 2 ^ 62 := of_decide_eq_true (Bool.and_eq_true _ _ ▸ h).1
theorem rngOk_2 {i j : Int} (h : rngOk i j = true) : (j - i).toNat ≤ sizeLine := of_decide_eq_true (Bool.and_eq_true _ _ ▸ h).2
/-- what an iterator J walks: the typed items as, one after another, in every heap that goes on from I1 -/
structure WalkI {α : Type} [Py α] (g : Gb) (B : Bs) (J : It) (as : List α) (I1 : Hp) : Prop where
  go : ∀ i a I2 H2, as[i]? = some a → Same I1 I2 → Same I2 H2 → SW B.H H2 → J.go i H2
  yl : ∀ i a I2 H2 x H', as[i]? = some a → Same I1 I2 → Same I2 H2 → SW B.H H2 → J.yld i H2 x H' → ∃ I', Ext I2 H2 I' H' ∧ (Py.r g a).p I' x
  st : ∀ I2 H2, Same I1 I2 → Same I2 H2 → SW B.H H2 → J.stop as.length H2
  len : as.length ≤ sizeLine
def rdI {α : Type} [Py α] (g : Gb) (B : Bs) (S : SL) (as : List α) : TI := fun σ H R => ∃ I, Hold g B S σ I H ∧ ∀ (J : It) I' H', Ext I H I' H' → WalkI g B J as I' → R J H'
structure MI {α : Type} [Py α] (X : Cx) (g : Gb) (B : Bs) (S : SL) (tg e : Expr) (m : Option (List α)) : Prop where
  run : ∀ as, m = some as → PI X tg e (rdI g B S as)
theorem pi_imp {X : Cx} {tg e : Expr} {t t' : TI} (h : PI X tg e t) (f : ∀ σ H R, t' σ H R → t σ H R) : PI X tg e t' := ⟨fun pins s σ H R I hw => h.run pins s σ H R I (f σ H R hw)⟩
theorem walk_list {α : Type} [Py α] {g : Gb} {B : Bs} {as : List α} {a : Addr} {vs : List V} {I1 : Hp} (hL : SqL g.K I1 a vs ∨ SqL g.K B.H a vs) (hR : (rl g as).p I1 vs) : WalkI g B (Itl g.K a) as I1 where
  go := fun i x I2 H2 e s1 s2 s3 => by
    obtain ⟨v, e2, _⟩ := paired_get hR.2 e
    exact ⟨vs, v, hL.elim (fun z => s2.seq (s1.seq z)) fun z => s3.seq z, e2⟩
  yl := fun i x I2 H2 v H' e s1 s2 s3 y => by
    obtain ⟨u, e2, q⟩ := paired_get hR.2 e
    obtain ⟨rfl, y⟩ := y
    have e3 := y vs (hL.elim (fun z => s2.seq (s1.seq z)) fun z => s3.seq z)
    rw [e2] at e3
    cases e3
    exact ⟨I2, Ext.refl s2, (Py.r g x).mono s1 q⟩
  st := fun I2 H2 s1 s2 s3 => ⟨vs, hL.elim (fun z => s2.seq (s1.seq z)) fun z => s3.seq z, Nat.le_of_eq (rl_len hR)⟩
  len := hR.1
theorem walk_rng {g : Gb} {B : Bs} {lo : Int} {n : Nat} {I1 : Hp} (hn : n ≤ sizeLine) : WalkI g B (Itr lo n) (rng lo n) I1 where
  go := fun i x I2 H2 e _ _ _ => by
    have := (List.getElem?_eq_some_iff.mp e).1
    rw [rng_len] at this
    exact this
  yl := fun i x I2 H2 v H' e s1 s2 s3 y => by
    have hi := (List.getElem?_eq_some_iff.mp e).1
    rw [rng_len] at hi
    rw [rng_get hi] at e
    cases e
    obtain ⟨rfl, rfl⟩ := y
    exact ⟨I2, Ext.refl s2, rfl⟩
  st := fun I2 H2 _ _ _ => by
    rw [rng_len]
    exact Nat.le_refl _
  len := by
    rw [rng_len]
    exact hn
section
variable {X : Cx} {g : Gb} {B : Bs} {J : Hp} {S : SL} {e e1 e2 e3 tg : Expr} {es : List Expr} {pos pos' p : Pos} {o α' β γ ρ : Type} {K : KT o} {rest body : List Stmt} {α : Type} [Py α]
theorem mi_rng1 {m : Option Int} (hm : X.mg "range" = none) (h : ME X g B S e m (KI g)) (hg : Gl X "range" := by rfl) (hs : starEach [e] X.env = [(false, eval e X.env)] := by rfl) : MI X g B S tg (.Call (.Name "range" p) [e] [] pos) (m >>= fun n => rng1O n) := by
  refine ⟨fun as q => ?_⟩
  obtain ⟨n, q1, q2⟩ := bind_some q
  unfold rng1O at q2
  by_cases hn : rngOk 0 n = true
  · rw [if_pos hn] at q2
    cases q2
    have hb := rngOk_1 hn
    have hz := rngOk_2 hn
    refine pi_imp (pi_range1 hg hm (pa_cons (h.run n q1) pa_nil hs) hs) fun σ H R ⟨I, hh, k⟩ => ⟨I, hh, fun v I' H' x hv => ⟨n, by cases hv; rfl, hb.2.2.1, hb.2.2.2, k _ I' H' x (walk_rng (by rw [Int.sub_zero] at hz; exact hz))⟩⟩
  · rw [if_neg hn] at q2
    cases q2
theorem mi_rng2 {m m2 : Option Int} (hm : X.mg "range" = none) (h : ME X g B S e m (KI g)) (h2 : ME X g B S e2 m2 (KI g)) (hg : Gl X "range" := by rfl) (hs : starEach [e, e2] X.env = [(false, eval e X.env), (false, eval e2 X.env)] := by rfl) (hs2 : starEach [e2] X.env = [(false, eval e2 X.env)] := by rfl) :
    MI X g B S tg (.Call (.Name "range" p) [e, e2] [] pos) (m >>= fun a => m2 >>= fun b => rng2O a b) := by
  refine ⟨fun as q => ?_⟩
  obtain ⟨a, q1, q⟩ := bind_some q
  obtain ⟨b, q2, q⟩ := bind_some q
  unfold rng2O at q
  by_cases hn : rngOk a b = true
  · rw [if_pos hn] at q
    cases q
    have hb := rngOk_1 hn
    have hz := rngOk_2 hn
    refine pi_imp (pi_range2 hg hm (pa_cons (h.run a q1) (pa_cons (h2.run b q2) pa_nil hs2) (by rw [hs, hs2])) hs hs2) fun σ H R ⟨I, hh, k⟩ => ⟨I, hh, fun v I' H' x hv => ⟨I', hh.ext x, fun w I2 H2 x2 hw => ⟨a, b, by cases hv; cases hw; rfl, hb, k _ I2 H2 (x.trans x2) (walk_rng hz)⟩⟩⟩
  · rw [if_neg hn] at q
    cases q
theorem wipe_get : ∀ (vs : List Nat) (σ : L2.St) (j : Nat), (wipe σ vs)[j]? = if j ∈ vs ∧ j < σ.length then some none else σ[j]?
  | [], σ, j => by rw [if_neg (by simp)]; rfl
  | v :: vs, σ, j => by
    show ((wipe σ vs).set v none)[j]? = _
    rw [List.getElem?_set, wipe_get vs σ j, wipe_length]
    by_cases hv : v = j
    · subst hv
      rw [if_pos rfl]
      by_cases hl : v < σ.length
      · rw [if_pos hl, if_pos ⟨List.mem_cons_self, hl⟩]
      · rw [if_neg hl, if_neg (fun z => hl z.2), List.getElem?_eq_none_iff.mpr (by omega)]
    · rw [if_neg hv]
      by_cases hj : j ∈ vs ∧ j < σ.length
      · rw [if_pos hj, if_pos ⟨List.mem_cons_of_mem _ hj.1, hj.2⟩]
      · rw [if_neg hj, if_neg (fun z => hj ⟨(List.mem_cons.mp z.1).resolve_left (fun q => hv q.symm), z.2⟩)]
theorem wipe_set {σ : L2.St} {i : Nat} {x : Option V} {vs : List Nat} (h : i ∈ vs) : wipe (σ.set i x) vs = wipe σ vs := by
  apply List.ext_getElem?
  intro j
  rw [wipe_get, wipe_get, List.length_set]
  by_cases hj : j ∈ vs ∧ j < σ.length
  · rw [if_pos hj, if_pos hj]
  · rw [if_neg hj, if_neg hj]
    by_cases hij : i = j
    · subst hij
      have hl : ¬ i < σ.length := fun z => hj ⟨h, z⟩
      rw [List.getElem?_eq_none_iff.mpr (by rw [List.length_set]; omega), List.getElem?_eq_none_iff.mpr (by omega)]
    · rw [List.getElem?_set_ne hij]
theorem wipe_wipe {σ : L2.St} {vs : List Nat} : wipe (wipe σ vs) vs = wipe σ vs := by
  apply List.ext_getElem?
  intro j
  rw [wipe_get vs (wipe σ vs) j, wipe_length, wipe_get vs σ j]
  by_cases hj : j ∈ vs ∧ j < σ.length
  · rw [if_pos hj, if_pos hj]
  · rw [if_neg hj]
/-- the target of a for, a typed item put into its slots ts -/
structure MG {α : Type} [Py α] (X : Cx) (g : Gb) (tg : Expr) (gt : TG) (put : α → SL → SL) (ts : List Nat) : Prop where
  pg : PG X tg gt
  ok : ∀ (B : Bs) (S : SL) (a : α) (v : V) σ I H Q, Hold g B S σ I H → (Py.r g a).p I v → (∀ σ', Hold g B (put a S) σ' I H → (∀ vs, (∀ t ∈ ts, t ∈ vs) → wipe σ' vs = wipe σ vs) → Q σ' H) → gt v σ H Q
theorem hold_put {a : α} {v : V} {i : Nat} {σ : L2.St} {I H : Hp} (h : Hold g B S σ I H) (hv : (Py.r g a).p I v) : Hold g B (S.set i (some (.im (Py.r g a)))) (σ.set i (some v)) I H := h.put (Ext.refl h.sub) rfl hv
theorem MG.oks {gt : TG} {put : α → SL → SL} {ts : List Nat} (h : MG X g tg gt put ts) {a : α} {v : V} {σ : L2.St} {I H : Hp} {Q : L2.St → Hp → Prop} (ok : Ok g B J S σ I H) (hv : (Py.r g a).p I v) (k : ∀ σ', Ok g B J (put a S) σ' I H → Q σ' H) : gt v σ H Q :=
  h.ok B S a v σ I H Q ok.h hv fun σ' h' _ => k σ' ⟨ok.x, ok.j, h'⟩
theorem mg_name (i : Nat) {x : Str} (hN : X.N.Nodup) (hi : X.N[i]? = some x := by rfl) (hx : Loc X.env.scope x := by first | exact Or.inl rfl | exact Or.inr rfl) (hf : X.fn x = true ∨ X.env.scope.names.lookup x = some .local := by first | exact .inl rfl | exact .inr rfl) :
    MG (α := α) X g (.Name x pos) (gName i) (fun a S => S.set i (some (.im (Py.r g a)))) [i] :=
  ⟨pg_name hN hi hx hf, fun B S a v σ I H Q h hv k => k _ (hold_put h hv) fun vs ht => wipe_set (ht i List.mem_cons_self)⟩
/-- a turn's reading, at all states and items at once -/
def turnN {α β : Type} [Py α] (g : Gb) (B : Bs) (put : α → SL → SL) (S' : β → SL) (fb : β → α → Option β) : TS := fun D σ H => ∃ J I s a s', Ok g B J (put a (S' s)) σ I H ∧ fb s a = some s' ∧ ∀ σ I H, Ok g B J (S' s') σ I H → D.nx σ H
def turnC {α γ ρ : Type} [Py α] (g : Gb) (B : Bs) (put : α → SL → SL) (S' : γ → SL) (k : ρ → RK) (fb : γ → α → Option (Ctl γ γ ρ)) : TS := fun D σ H => ∃ J I s a c, Ok g B J (put a (S' s)) σ I H ∧ fb s a = some c ∧ Kc g B J S' S' k c D
/-- for over a walk: Pv by the turn -/
theorem for_walk {J : It} {as : List α} {I1 : Hp} {gt : TG} {tb : TS} {D : Ends} {σ : L2.St} {H : Hp} (W : WalkI g B J as I1) (Pv : Nat → L2.St → Hp → Prop) (h0 : Pv 0 σ H)
    (hl : ∀ i σ H, Pv i σ H → ∃ I2, Same I1 I2 ∧ Same I2 H ∧ SW B.H H)
    (hs : ∀ i a σ H x H', as[i]? = some a → Pv i σ H → J.yld i H x H' → gt x σ H' fun σ2 H2 => tb { D with nx := Pv (i + 1), ct := Pv (i + 1), bk := D.nx } σ2 H2) (hd : ∀ σ H, Pv as.length σ H → D.nx σ H) :
    ∃ W : Nat → Nat → L2.St → Hp → Prop, (∃ m, W 0 m σ H) ∧ ∀ i m σ H, W i m σ H →
      (J.stop i H ∧ D.nx σ H) ∨ (J.go i H ∧ ∃ N : L2.St → Hp → Prop, (∀ σ' H', N σ' H' → ∃ m', m' < m ∧ W (i + 1) m' σ' H') ∧ ∀ x H', J.yld i H x H' → gt x σ H' fun σ2 H2 => tb { D with nx := N, ct := N, bk := D.nx } σ2 H2) := by
  refine ⟨fun i m σ H => m = as.length - i ∧ i ≤ as.length ∧ Pv i σ H, ⟨as.length, by simp, Nat.zero_le _, h0⟩, ?_⟩
  rintro i m σ H ⟨rfl, hi, p⟩
  obtain ⟨I2, s1, s2, s3⟩ := hl i σ H p
  by_cases hlt : i < as.length
  · have e : as[i]? = some as[i] := List.getElem?_eq_getElem hlt
    exact .inr ⟨W.go i _ I2 H e s1 s2 s3, Pv (i + 1), fun σ' H' p' => ⟨as.length - (i + 1), by omega, rfl, hlt, p'⟩, fun x H' y => hs i _ σ H x H' e p y⟩
  · have e : i = as.length := by omega
    subst e
    exact .inl ⟨W.st I2 H s1 s2 s3, hd σ H p⟩
theorem drop_at {as : List α} {i : Nat} {it : α} (hit : as[i]? = some it) : as.drop i = it :: as.drop (i + 1) := by
  have hlt : i < as.length := (List.getElem?_eq_some_iff.mp hit).1
  rw [List.drop_eq_getElem_cons hlt]
  rw [List.getElem?_eq_getElem hlt] at hit
  rw [Option.some.inj hit]
/-- for: every turn goes on -/
theorem mb_for {m : Option (List α)} {put : α → SL → SL} {S' : β → SL} {s0 : β} {fb : β → α → Option β} {f : β → Option o} (hp : PassesOwn (model X.prog X.w) X.A X.env X.xe) (hi : MI X g B S tg e m) {gt : TG} {ts : List Nat} (hG : MG X g tg gt put ts) (w : Wk S (S' s0))
    (hb : ∀ J s a, MB X g B J (put a (S' s)) body (fb s a) (Kn g B J S')) (hr : ∀ s, MB X g B J (S' s) rest (f s) K) (hc : X.calm = true := by rfl) (hs : ∀ x, foldedSetIterable e X.env x = pure x := by intro _; rfl) :
    MB X g B J S (.For tg e body [] pos :: rest) (m >>= fun as => loopN fb as s0 >>= f) K := by
  refine ⟨fun r q => ?_⟩
  obtain ⟨as, q1, q⟩ := bind_some q
  obtain ⟨s1, q2, q3⟩ := bind_some q
  have hg1 := hG.pg
  have hbody : PSs X body (turnN g B put S' fb) :=
    ⟨fun pins st σ H D inv ⟨J, I, s, a, s', ok, e1, k⟩ => ((hb J s a).run s' e1).run pins st σ H D inv ⟨I, ok, k⟩⟩
  refine pss_imp (pss_cons (ps_for hp hc (hi.run as q1) hg1 hbody hs) ((hr s1).run r q3)) fun D σ H ⟨I, ok, kk⟩ => ?_
  refine ⟨I, ok.h, fun J1 I1 H1 x1 hW => ?_⟩
  have F := for_walk (gt := gt) (tb := turnN g B put S' fb) (D := { D with nx := fun σ H => ∃ I, Ok g B J (S' s1) σ I H ∧ K r D }) (σ := σ) (H := H1) hW
    (fun i σ H => ∃ s I2, loopN fb (as.drop i) s = some s1 ∧ Same I1 I2 ∧ Ok g B J (S' s) σ I2 H) ⟨s0, I1, q2, Same.refl _, (ok.ext x1).wk w⟩ (fun i σ H ⟨s, I2, _, s2, ok2⟩ => ⟨I2, s2, ok2.h.sub, ok2.h.base⟩) (fun i it σ H x H' hit ⟨s, I2, hl, s2, ok2⟩ hy => ?_) (fun σ H ⟨s, I2, hl, s2, ok2⟩ => ?_)
  · exact F
  · obtain ⟨I3, x3, hv⟩ := hW.yl i it I2 H x H' hit s2 ok2.h.sub ok2.h.base hy
    rw [drop_at hit] at hl
    obtain ⟨s', e1, e2⟩ := bind_some (show (fb s it >>= fun s' => loopN fb (as.drop (i + 1)) s') = some s1 from hl)
    have ok3 : Ok g B I3 (S' s) σ I3 H' := ⟨ok2.x.trans x3, Same.refl _, ok2.h.ext x3⟩
    exact hG.oks ok3 hv fun σ' ok4 => ⟨I3, I3, s, it, s', ok4, e1, fun σ5 I5 H5 ok5 => ⟨s', I5, e2, (s2.trans x3.i).trans ok5.j, ⟨ok5.x, (ok2.j.trans x3.i).trans ok5.j, ok5.h⟩⟩⟩
  · rw [List.drop_of_length_le (Nat.le_refl _)] at hl
    cases hl
    exact ⟨I2, ok2, kk⟩
/-- a way out of the loop, as the block goes on from it -/
structure KL {γ ρ o : Type} (g : Gb) (B : Bs) (K : KT o) (k : ρ → RK) (inj : ρ → o) : Prop where
  rt : ∀ r D, K (inj r) D → ∀ v I' H', Ext B.I B.H I' H' → RK.holds g (k r) B.H v I' H' → D.rt v H'
/-- for: a turn may leave, go on ahead of its end, break -/
theorem mb_forC {m : Option (List α)} {put : α → SL → SL} {S' : γ → SL} {s0 : γ} {k : ρ → RK} {fb : γ → α → Option (Ctl γ γ ρ)} {f : Ctl γ Empty ρ → Option o} {f0 : γ → Option o} {inj : ρ → o} (kr : KR g B K inj k) (hp : PassesOwn (model X.prog X.w) X.A X.env X.xe) (hi : MI X g B S tg e m) {gt : TG} {ts : List Nat} (hG : MG X g tg gt put ts) (w : Wk S (S' s0))
    (hb : ∀ J s a, MB X g B J (put a (S' s)) body (fb s a) (Kc g B J S' S' k)) (hr : ∀ s, MB X g B J (S' s) rest (f0 s) K) (hf : ∀ s, f (.nx s) = f0 s) (hf2 : ∀ r, f (.rt r) = some (inj r)) (hc : X.calm = true := by rfl) (hs : ∀ x, foldedSetIterable e X.env x = pure x := by intro _; rfl) :
    MB X g B J S (.For tg e body [] pos :: rest) (m >>= fun as => loopC fb as s0 >>= f) K := by
  refine ⟨fun r q => ?_⟩
  obtain ⟨as, q1, q⟩ := bind_some q
  obtain ⟨c1, q2, q3⟩ := bind_some q
  have hg1 := hG.pg
  have hbody : PSs X body (turnC g B put S' k fb) :=
    ⟨fun pins st σ H D inv ⟨J, I, s, a, c, ok, e1, k⟩ => ((hb J s a).run c e1).run pins st σ H D inv ⟨I, ok, k⟩⟩
  obtain ⟨u, hu, hk⟩ : ∃ u : TS, PSs X rest u ∧ ∀ D, K r D → (∀ s1, c1 = .nx s1 → ∀ σ I H, Ok g B J (S' s1) σ I H → u D σ H) ∧ (∀ r1, c1 = .rt r1 → ∀ v I' H', Ext B.I B.H I' H' → RK.holds g (k r1) B.H v I' H' → D.rt v H') := by
    cases c1 with
    | nx s1 =>
      rw [hf] at q3
      exact ⟨_, (hr s1).run r q3, fun D kk => ⟨fun s2 e2 σ I H ok => (by cases e2; exact ⟨I, ok, kk⟩), fun r1 e2 => (by cases e2)⟩⟩
    | rt r1 =>
      rw [hf2] at q3
      cases q3
      exact ⟨_, pss_never, fun D kk => ⟨fun s2 e2 => (by cases e2), fun r2 e2 => (by cases e2; exact kr r1 D kk)⟩⟩
    | ct c => exact c.elim
    | bk c => exact c.elim
  refine pss_imp (pss_cons (ps_for hp hc (hi.run as q1) hg1 hbody hs) hu) fun D σ H ⟨I, ok, kk⟩ => ?_
  obtain ⟨hk1, hk2⟩ := hk D kk
  refine ⟨I, ok.h, fun J1 I1 H1 x1 hW => ?_⟩
  have F := for_walk (gt := gt) (tb := turnC g B put S' k fb) (D := { D with nx := u D }) (σ := σ) (H := H1) hW
    (fun i σ H => ∃ s I2, loopC fb (as.drop i) s = some c1 ∧ Same I1 I2 ∧ Ok g B J (S' s) σ I2 H) ⟨s0, I1, q2, Same.refl _, (ok.ext x1).wk w⟩ (fun i σ H ⟨s, I2, _, s2, ok2⟩ => ⟨I2, s2, ok2.h.sub, ok2.h.base⟩) (fun i it σ H x H' hit ⟨s, I2, hl, s2, ok2⟩ hy => ?_) (fun σ H ⟨s, I2, hl, s2, ok2⟩ => ?_)
  · exact F
  · obtain ⟨I3, x3, hv⟩ := hW.yl i it I2 H x H' hit s2 ok2.h.sub ok2.h.base hy
    rw [drop_at hit] at hl
    obtain ⟨c', e1, e2⟩ := bind_some hl
    have ok3 : Ok g B I3 (S' s) σ I3 H' := ⟨ok2.x.trans x3, Same.refl _, ok2.h.ext x3⟩
    refine hG.oks ok3 hv fun σ' ok4 => ⟨I3, I3, s, it, c', ok4, e1, ?_⟩
    cases c' with
    | nx s' => exact fun σ5 I5 H5 ok5 => ⟨s', I5, e2, (s2.trans x3.i).trans ok5.j, ⟨ok5.x, (ok2.j.trans x3.i).trans ok5.j, ok5.h⟩⟩
    | ct s' => exact fun σ5 I5 H5 ok5 => ⟨s', I5, e2, (s2.trans x3.i).trans ok5.j, ⟨ok5.x, (ok2.j.trans x3.i).trans ok5.j, ok5.h⟩⟩
    | rt r1 =>
      cases e2
      exact hk2 r1 rfl
    | bk s' =>
      cases e2
      exact fun σ5 I5 H5 ok5 => hk1 s' rfl σ5 I5 H5 ⟨ok5.x, (ok2.j.trans x3.i).trans ok5.j, ok5.h⟩
  · rw [List.drop_of_length_le (Nat.le_refl _)] at hl
    cases hl
    exact hk1 s rfl σ I2 H ok2
/-! while -/
def whileC {γ ρ : Type} (c : γ → Option Bool) (f : γ → Option (Ctl γ γ ρ)) : Nat → γ → Option (Ctl γ Empty ρ)
  | 0, _ => none
  | n + 1, s => c s >>= fun b => if b = true then (f s >>= fun c' => match c' with
    | .nx s' => whileC c f n s'
    | .ct s' => whileC c f n s'
    | .rt r => some (.rt r)
    | .bk s' => some (.nx s')) else some (.nx s)
def wtest {γ : Type} (g : Gb) (B : Bs) (S' : γ → SL) (cm : γ → Option Bool) : TT := fun σ H Q => ∃ s I b, Hold g B (S' s) σ I H ∧ cm s = some b ∧ ∀ I' H', Ext I H I' H' → Q b H'
def wturn {γ ρ : Type} (g : Gb) (B : Bs) (J : Hp) (S' : γ → SL) (k : ρ → RK) (fb : γ → Option (Ctl γ γ ρ)) : TS := fun D σ H => ∃ I s c, Ok g B J (S' s) σ I H ∧ fb s = some c ∧ Kc g B J S' S' k c D
theorem mb_while {c : Expr} (N : Nat) {S' : γ → SL} {s0 : γ} {k : ρ → RK} {cm : γ → Option Bool} {fb : γ → Option (Ctl γ γ ρ)} {f : Ctl γ Empty ρ → Option o} {f0 : γ → Option o} {inj : ρ → o} (kr : KR g B K inj k) (hp : PassesOwn (model X.prog X.w) X.A X.env X.xe) (w : Wk S (S' s0))
    (hc : ∀ s, MT X g B (S' s) c (cm s)) (hb : ∀ s, MB X g B J (S' s) body (fb s) (Kc g B J S' S' k)) (hr : ∀ s, MB X g B J (S' s) rest (f0 s) K) (hf : ∀ s, f (.nx s) = f0 s) (hf2 : ∀ r, f (.rt r) = some (inj r)) :
    MB X g B J S (.While c body [] pos :: rest) (whileC cm fb N s0 >>= f) K := by
  refine ⟨fun r q => ?_⟩
  obtain ⟨c1, q2, q3⟩ := bind_some q
  have htest : PT X c (wtest g B S' cm) := ⟨fun pins st σ H Q inv ⟨s, I, b, hh, e1, kq⟩ => ((hc s).run b e1).run pins st σ H Q inv ⟨I, hh, kq⟩⟩
  have hbody : PSs X body (wturn g B J S' k fb) := ⟨fun pins st σ H D inv ⟨I, s, c, ok, e1, kq⟩ => ((hb s).run c e1).run pins st σ H D inv ⟨I, ok, kq⟩⟩
  obtain ⟨u, hu, hk⟩ : ∃ u : TS, PSs X rest u ∧ ∀ D, K r D → (∀ s1, c1 = .nx s1 → ∀ σ I H, Ok g B J (S' s1) σ I H → u D σ H) ∧ (∀ r1, c1 = .rt r1 → ∀ v I' H', Ext B.I B.H I' H' → RK.holds g (k r1) B.H v I' H' → D.rt v H') := by
    cases c1 with
    | nx s1 =>
      rw [hf] at q3
      exact ⟨_, (hr s1).run r q3, fun D kk => ⟨fun s2 e2 σ I H ok => (by cases e2; exact ⟨I, ok, kk⟩), fun r1 e2 => (by cases e2)⟩⟩
    | rt r1 =>
      rw [hf2] at q3
      cases q3
      exact ⟨_, pss_never, fun D kk => ⟨fun s2 e2 => (by cases e2), fun r2 e2 => (by cases e2; exact kr r1 D kk)⟩⟩
    | ct c => exact c.elim
    | bk c => exact c.elim
  refine pss_imp (pss_cons (ps_while hp htest hbody) hu) fun D σ H ⟨I, ok, kk⟩ => ?_
  obtain ⟨hk1, hk2⟩ := hk D kk
  refine ⟨fun n σ H => ∃ s I2, whileC cm fb n s = some c1 ∧ Ok g B J (S' s) σ I2 H, ⟨N, s0, I, q2, ok.wk w⟩, ?_⟩
  rintro n σ H ⟨s, I2, hl, ok2⟩
  cases n with
  | zero => cases hl
  | succ n =>
    obtain ⟨b, e1, e2⟩ := bind_some hl
    refine ⟨s, I2, b, ok2.h, e1, fun I3 H3 x3 => ?_⟩
    cases b with
    | false =>
      rw [if_neg Bool.false_ne_true] at e2 ⊢
      cases e2
      exact hk1 s rfl σ I3 H3 (ok2.ext x3)
    | true =>
      rw [if_pos rfl] at e2 ⊢
      obtain ⟨c', e3, e4⟩ := bind_some e2
      refine ⟨fun σ' H' => ∃ s I2, whileC cm fb n s = some c1 ∧ Ok g B J (S' s) σ' I2 H', fun σ' H' h => ⟨n, Nat.lt_succ_self n, h⟩, I3, s, c', ok2.ext x3, e3, ?_⟩
      cases c' with
      | nx s' => exact fun σ5 I5 H5 ok5 => ⟨s', I5, e4, ok5⟩
      | ct s' => exact fun σ5 I5 H5 ok5 => ⟨s', I5, e4, ok5⟩
      | rt r1 =>
        cases e4
        exact hk2 r1 rfl
      | bk s' =>
        cases e4
        exact fun σ5 I5 H5 ok5 => hk1 s' rfl σ5 I5 H5 ok5
end
end T
set_option Elab.async false
set_option linter.all false
set_option maxRecDepth 100000
namespace T
variable [TabsC]
open PySem PySem.Spec PyProof.Rows L2

/-! a def -/
def S0 (N : List Str) (ks : List RK) : SL := ks.map some ++ List.replicate (N.length - ks.length) none
def RK.argy : RK → Bool
  | .im _ => true
  | .bw _ => true
  | _ => false
theorem hold_start {g : Gb} {N : List Str} {ks : List RK} {vs : List V} {I H : Hp} (hl : ks.length ≤ N.length) (s : Same I H) (tb : TbI I H) (hA : Args g ks vs I H) (hk : ks.all RK.argy = true) : Ok g ⟨I, H⟩ I (S0 N ks) (L2.start N vs) I H := by
  have hlen : ks.length = vs.length := Paired.length hA
  have arg : ∀ {i : Nat} {k : RK}, (S0 N ks)[i]? = some (some k) → ks[i]? = some k := fun {i k} e => by
    unfold S0 at e
    by_cases hi : i < ks.length
    · rw [List.getElem?_append_left (by rw [List.length_map]; exact hi), List.getElem?_map] at e
      cases q : ks[i]? with
      | none => rw [q] at e; cases e
      | some k' => rw [q] at e; cases e; rfl
    · rw [List.getElem?_append_right (by rw [List.length_map]; omega)] at e
      obtain ⟨h1, h2⟩ := List.getElem?_eq_some_iff.mp e
      rw [List.getElem_replicate] at h2
      cases h2
  refine ⟨Ext.refl s, Same.refl _, fun _ _ => none, ?_, s, SW.refl _, .of tb, fun i k e => ?_, fun i a o z => (by cases z), fun i j a z => absurd rfl z⟩
  · unfold S0 L2.start
    simp only [List.length_append, List.length_map, List.length_replicate]
    omega
  · obtain ⟨v, e2, q⟩ := paired_get hA (arg e)
    refine ⟨v, ?_, ?_⟩
    · unfold L2.start
      rw [List.getElem?_append_left (by rw [List.length_map]; exact (List.getElem?_eq_some_iff.mp e2).1), List.getElem?_map, e2]
      rfl
    · have ha := List.all_eq_true.mp hk _ (List.mem_of_getElem? (arg e))
      cases k with
      | im p => exact q
      | bw p => exact q
      | fr p => cases ha
      | rd p => cases ha
      | ow p => cases ha
section
variable {P : Program} {w : World} {K : PySem.W.Frag} {mg : Str → Option Value} {base : Heap} {ι β : Type} {args : ι → List RK} {M : ι → Option β} {kd : β → RK}
end

section
variable {X : Cx} {g : Gb} {B : Bs} {J : Hp} {S : SL} {e e1 e2 e3 tg : Expr} {es : List Expr} {pos pos' p : Pos} {o α' β' γ ρ : Type} {K : KT o} {rest body : List Stmt} {α β : Type} [Py α] [Py β] {m : Option (List α)} {k : List α → RK}
/-! built-ins -/
theorem me_len (hm : X.mg "len" = none) (h : ME X g B S e m k) (r : LR g k := by first | exact lr_im | exact lr_fr | exact lr_rd) (hg : Gl X "len" := by rfl) (hK : X.K = g.K := by rfl) (he : starEach [e] X.env = (false, eval e X.env) :: starEach [] X.env := by rfl) (hpl : (backTo pos (starEach [] X.env)).any (·.1) = false := by rfl) :
    ME X g B S (.Call (.Name "len" p) [e] [] pos) (m >>= fun xs => some (xs.length : Int)) (KI g) := by
  refine ⟨fun n q => ?_⟩
  obtain ⟨xs, q1, q2⟩ := bind_some q
  cases q2
  refine pe_imp (pe_callB call_len_seq hg hm PySem.boot_len (pa_cons (h.run xs q1) pa_nil he) (he := he) (hpl := hpl)) fun σ H Q ⟨I, hh, kk⟩ => ⟨I, hh, fun v I' H' x hv => ?_⟩
  obtain ⟨l, vs, rfl, h1, h2⟩ := r xs _ _ _ _ x.s hv
  refine ⟨l, vs, rfl, .inl (by rw [hK]; exact h1), ?_⟩
  rw [rl_len h2]
  exact kk _ I' H' x rfl
theorem me_sum {m : Option (List Int)} {k : List Int → RK} (hm : X.mg "sum" = none) (h : ME X g B S e m k) (r : LR g k := by first | exact lr_im | exact lr_fr | exact lr_rd) (hg : Gl X "sum" := by rfl) (hK : X.K = g.K := by rfl) (hc : X.calm = true := by rfl) (he : starEach [e] X.env = (false, eval e X.env) :: starEach [] X.env := by rfl) (hpl : (backTo pos (starEach [] X.env)).any (·.1) = false := by rfl) :
    ME X g B S (.Call (.Name "sum" p) [e] [] pos) (m >>= fun xs => some xs.sum) (KI g) := by
  refine ⟨fun n q => ?_⟩
  obtain ⟨xs, q1, q2⟩ := bind_some q
  cases q2
  refine pe_imp (pe_callB (cr_sum hc) hg hm (by decide +kernel) (pa_cons (h.run xs q1) pa_nil he) (he := he) (hpl := hpl)) fun σ H Q ⟨I, hh, kk⟩ => ⟨I, hh, fun v I' H' x hv => ?_⟩
  obtain ⟨l, vs, rfl, h1, h2⟩ := r xs _ _ _ _ x.s hv
  have e1 := vals_ints h2.2
  subst e1
  exact ⟨l, xs, rfl, by rw [hK]; exact h1, kk _ I' H' x rfl⟩
theorem me_call2B {id : String} {x : Str} {rr : List V → Hp → VK → Prop} {γ' : Type} {m1 : Option α'} {m2 : Option γ'} {k1 : α' → RK} {k2 : γ' → RK} {k3 : β' → RK} {fm : α' → γ' → Option β'} (hm : X.mg x = none) (hr : CallR X (.builtin id) rr) (hv : bootBuiltins x = some (.builtin id)) (h : ME X g B S e m1 k1) (h2 : ME X g B S e2 m2 k2)
    (hq : ∀ a c b, fm a c = some b → ∀ v w H0 H1 I H Q, Same I H → RK.holds g (k1 a) H0 v I H → RK.holds g (k2 c) H1 w I H → (∀ u I' H', Ext I H I' H' → RK.holds g (k3 b) H u I' H' → Q u H') → rr [v, w] H Q) (hb : ∀ c, (k3 c).isB = false := by intro _; rfl)
    (hg : Gl X x := by rfl) (hn : x ≠ "__name__" := by decide) (hdb : (x == ("__debug__" : Str)) = false := by decide) (he : starEach [e, e2] X.env = (false, eval e X.env) :: starEach [e2] X.env := by rfl) (he2 : starEach [e2] X.env = (false, eval e2 X.env) :: starEach [] X.env := by rfl) (hpl : (backTo pos (starEach [e2] X.env)).any (·.1) = false := by rfl) :
    ME X g B S (.Call (.Name x p) [e, e2] [] pos) (m1 >>= fun a => m2 >>= fun c => fm a c) k3 := by
  refine ⟨fun n q => ?_⟩
  obtain ⟨a, q1, q⟩ := bind_some q
  obtain ⟨c, q2, q3⟩ := bind_some q
  refine pe_imp (pe_callB hr hg hm hv (pa_cons (h.run a q1) (pa_cons (h2.run c q2) pa_nil he2) he) hn hdb he hpl) fun σ H Q ⟨I, hh, kk⟩ => ⟨I, hh, fun v I' H' x hv => ⟨I', hh.ext x, fun w I2 H2 x2 hw => ?_⟩⟩
  exact hq a c n q3 v w H H' I2 H2 Q x2.s (RK.ext hv x2 hh.tb.has) hw fun u I3 H3 x3 hu => kk u I3 H3 ((x.trans x2).trans x3) (RK.back (hb n) (x.trans x2).h hu)
theorem me_min {m1 m2 : Option Int} (hm : X.mg "min" = none) (h : ME X g B S e m1 (KI g)) (h2 : ME X g B S e2 m2 (KI g)) (hc : X.calm = true := by rfl) (hg : Gl X "min" := by rfl) (he : starEach [e, e2] X.env = (false, eval e X.env) :: starEach [e2] X.env := by rfl) (he2 : starEach [e2] X.env = (false, eval e2 X.env) :: starEach [] X.env := by rfl) (hpl : (backTo pos (starEach [e2] X.env)).any (·.1) = false := by rfl) :
    ME X g B S (.Call (.Name "min" p) [e, e2] [] pos) (m1 >>= fun a => m2 >>= fun c => some (min a c)) (KI g) :=
  me_call2B hm (call_min2 hc) (by decide +kernel) h h2 (fun a c b q v w H0 H1 I H Q s hv hw k => by
    cases q
    refine ⟨a, c, by cases hv; cases hw; rfl, ?_⟩
    have e : (if c < a then c else a) = min a c := by rw [Int.min_def]; split <;> split <;> omega
    rw [e]
    exact k _ _ _ (Ext.refl s) rfl) (hg := hg) (he := he) (he2 := he2) (hpl := hpl)
theorem me_callTy1 {Ty : String} {x : Str} {rr : List V → Hp → VK → Prop} {m1 : Option α'} {k1 : α' → RK} {k2 : β' → RK} {fm : α' → Option β'} (hm : X.mg x = none) (hr : CallR X (.type Ty) rr) (hv : bootBuiltins x = some (.type Ty)) (h : ME X g B S e m1 k1)
    (hq : ∀ a b, fm a = some b → ∀ v H0 I H Q, Same I H → RK.holds g (k1 a) H0 v I H → (∀ u I' H', Ext I H I' H' → RK.holds g (k2 b) H u I' H' → Q u H') → rr [v] H Q) (hb : ∀ c, (k2 c).isB = false := by intro _; rfl)
    (hg : Gl X x := by rfl) (hn : x ≠ "__name__" := by decide) (hdb : (x == ("__debug__" : Str)) = false := by decide) (he : starEach [e] X.env = (false, eval e X.env) :: starEach [] X.env := by rfl) (hpl : (backTo pos (starEach [] X.env)).any (·.1) = false := by rfl) :
    ME X g B S (.Call (.Name x p) [e] [] pos) (m1 >>= fm) k2 := by
  refine ⟨fun n q => ?_⟩
  obtain ⟨a, q1, q2⟩ := bind_some q
  refine pe_imp (pe_callTy hr hg hm hv (pa_cons (h.run a q1) pa_nil he) hn hdb he hpl) fun σ H Q ⟨I, hh, kk⟩ => ⟨I, hh, fun v I' H' x hv => ?_⟩
  exact hq a n q2 v H I' H' Q x.s hv fun u I2 H2 x2 hu => kk u I2 H2 (x.trans x2) (RK.back (hb n) x.h hu)
/-- int(a truth) -/
def b2z (b : Bool) : Int := if b = true then 1 else 0
theorem me_intB {m1 : Option Bool} (hm : X.mg "int" = none) (h : ME X g B S e m1 (KI g)) (hg : Gl X "int" := by rfl) (he : starEach [e] X.env = (false, eval e X.env) :: starEach [] X.env := by rfl) (hpl : (backTo pos (starEach [] X.env)).any (·.1) = false := by rfl) :
    ME X g B S (.Call (.Name "int" p) [e] [] pos) (m1 >>= fun a => some (b2z a)) (KI g) :=
  me_callTy1 hm call_int1 (by decide +kernel) h (fun a b q v H0 I H Q s hv k => by
    cases q
    exact .inr ⟨a, by cases hv; rfl, k _ _ _ (Ext.refl s) rfl⟩) (hg := hg) (he := he) (hpl := hpl)
/-- a list laid anew -/
theorem new_fr {as : List α} {vs : List V} {I H : Hp} {Q : VK} (s : Same I H) (h : (rl g as).p I vs) (k : ∀ u I' H', Ext I H I' H' → RK.holds g (.fr (rl g as)) H u I' H' → Q u H') {l : Addr} (hl : H l = none) : Q (.ref l) (upd H l (.lst vs)) := by
  have hI : I l = none := s.free hl
  refine k (.ref l) I _ ⟨Same.refl _, SW.of (same_new hl), s.trans (same_new hl), fun _ _ h => h⟩ ⟨l, vs, rfl, hl, hI, upd_same, h⟩
theorem me_list (hm : X.mg "list" = none) (h : ME X g B S e m k) (r : LR g k := by first | exact lr_im | exact lr_fr | exact lr_rd) (hg : Gl X "list" := by rfl) (hK : X.K = g.K := by rfl) (he : starEach [e] X.env = (false, eval e X.env) :: starEach [] X.env := by rfl) (hpl : (backTo pos (starEach [] X.env)).any (·.1) = false := by rfl) :
    ME X g B S (.Call (.Name "list" p) [e] [] pos) (m >>= fun xs => some xs) (fun xs => .fr (rl g xs)) :=
  me_callTy1 hm call_list_of (by decide +kernel) h (fun a b q v H0 I H Q s hv kk => by
    cases q
    obtain ⟨l, vs, rfl, h1, h2⟩ := r a _ _ _ _ s hv
    exact ⟨l, vs, rfl, .inl (by rw [hK]; exact h1), fun p hp => new_fr s h2 kk hp⟩) (hg := hg) (he := he) (hpl := hpl)

/-! items -/
theorem me_ix {m2 : Option Int} (h1 : ME X g B S e1 m k) (h2 : ME X g B S e2 m2 (KI g)) (r : LR g k := by first | exact lr_im | exact lr_fr | exact lr_rd) (hK : X.K = g.K := by rfl) (hs : PlainIx e2 := by exact fun _ _ => rfl) : ME X g B S (.Subscript e1 e2 pos) (m >>= fun xs => m2 >>= fun i => atO xs i) (KI g) := by
  refine ⟨fun a q => ?_⟩
  obtain ⟨xs, q1, q⟩ := bind_some q
  obtain ⟨i, q2, q3⟩ := bind_some q
  rw [atO_eq] at q3
  refine pe_imp (pe_ix ix_list (h1.run xs q1) (h2.run i q2) hs) fun σ H Q ⟨I, hh, kk⟩ => ⟨I, hh, fun v I' H' x hv => ⟨I', hh.ext x, fun w I2 H2 x2 hw => ?_⟩⟩
  obtain ⟨l, vs, rfl, h3, h4⟩ := r xs _ _ _ _ x2.s (RK.ext hv x2 hh.tb.has)
  obtain ⟨u, hu, hq⟩ := paired_at h4.2 q3
  exact ⟨l, vs, i, u, rfl, hw, by rw [hK]; exact h3, hu, kk u I2 H2 (x.trans x2) hq⟩
/-- an item of a tuple at a written place -/
theorem me_tix {γ' : Type} [Py γ'] {m : Option γ'} (n : Nat) {j : Nat} {f : γ' → α} (h1 : ME X g B S e1 m (KI g)) (ht : ∀ (t : γ') I v, (Py.r g t).p I v → ∃ p vs u, v = .ref p ∧ SqT g.K I p vs ∧ vs[n]? = some u ∧ (Py.r g (f t)).p I u) (hK : X.K = g.K := by rfl) :
    ME X g B S (.Subscript e1 (.Constant (.int n) j pos') pos) (m >>= fun t => some (f t)) (KI g) := by
  refine ⟨fun a q => ?_⟩
  obtain ⟨t, q1, q⟩ := bind_some q
  cases q
  refine pe_imp (pe_ix ix_tup (h1.run t q1) pe_int (fun _ _ => rfl)) fun σ H Q ⟨I, hh, kk⟩ => ⟨I, hh, fun v I' H' x hv => ?_⟩
  obtain ⟨p, vs, u, rfl, h3, h4, h5⟩ := ht t _ _ hv
  exact ⟨p, vs, n, u, rfl, rfl, by rw [hK]; exact seqT x.s h3, atI_nat h4, kk u I' H' x h5⟩
end
section
variable {g : Gb} {α β γ δ : Type} [Py α] [Py β] [Py γ] [Py δ]
theorem t3_0 (t : T3 α β γ) (I v) (h : (Py.r g t).p I v) : ∃ p vs u, v = V.ref p ∧ SqT g.K I p vs ∧ vs[0]? = some u ∧ (Py.r g t.x0).p I u := by
  obtain ⟨p, a, b, c, rfl, h0, h1, h2, h3⟩ := h; exact ⟨p, _, a, rfl, h0, rfl, h1⟩
theorem t3_1 (t : T3 α β γ) (I v) (h : (Py.r g t).p I v) : ∃ p vs u, v = V.ref p ∧ SqT g.K I p vs ∧ vs[1]? = some u ∧ (Py.r g t.x1).p I u := by
  obtain ⟨p, a, b, c, rfl, h0, h1, h2, h3⟩ := h; exact ⟨p, _, b, rfl, h0, rfl, h2⟩
theorem t3_2 (t : T3 α β γ) (I v) (h : (Py.r g t).p I v) : ∃ p vs u, v = V.ref p ∧ SqT g.K I p vs ∧ vs[2]? = some u ∧ (Py.r g t.x2).p I u := by
  obtain ⟨p, a, b, c, rfl, h0, h1, h2, h3⟩ := h; exact ⟨p, _, c, rfl, h0, rfl, h3⟩
theorem t4_0 (t : T4 α β γ δ) (I v) (h : (Py.r g t).p I v) : ∃ p vs u, v = V.ref p ∧ SqT g.K I p vs ∧ vs[0]? = some u ∧ (Py.r g t.x0).p I u := by
  obtain ⟨p, a, b, c, d, rfl, h0, h1, h2, h3, h4⟩ := h; exact ⟨p, _, a, rfl, h0, rfl, h1⟩
theorem t4_1 (t : T4 α β γ δ) (I v) (h : (Py.r g t).p I v) : ∃ p vs u, v = V.ref p ∧ SqT g.K I p vs ∧ vs[1]? = some u ∧ (Py.r g t.x1).p I u := by
  obtain ⟨p, a, b, c, d, rfl, h0, h1, h2, h3, h4⟩ := h; exact ⟨p, _, b, rfl, h0, rfl, h2⟩
theorem t4_2 (t : T4 α β γ δ) (I v) (h : (Py.r g t).p I v) : ∃ p vs u, v = V.ref p ∧ SqT g.K I p vs ∧ vs[2]? = some u ∧ (Py.r g t.x2).p I u := by
  obtain ⟨p, a, b, c, d, rfl, h0, h1, h2, h3, h4⟩ := h; exact ⟨p, _, c, rfl, h0, rfl, h3⟩
theorem t4_3 (t : T4 α β γ δ) (I v) (h : (Py.r g t).p I v) : ∃ p vs u, v = V.ref p ∧ SqT g.K I p vs ∧ vs[3]? = some u ∧ (Py.r g t.x3).p I u := by
  obtain ⟨p, a, b, c, d, rfl, h0, h1, h2, h3, h4⟩ := h; exact ⟨p, _, d, rfl, h0, rfl, h4⟩
end
end T
set_option Elab.async false
set_option linter.all false
set_option maxRecDepth 100000
namespace T
variable [TabsC]
open PySem PySem.Spec PyProof.Rows L2

/-! displays -/
/-- the items of a display, all of one type -/
structure ML {α : Type} [Py α] (X : Cx) (g : Gb) (B : Bs) (S : SL) (es : List Expr) (m : Option (List α)) : Prop where
  run : ∀ as, m = some as → PA X es (fun σ H Q => ∃ I, Hold g B S σ I H ∧ ∀ vs I' H', Ext I H I' H' → Paired (fun a v => (Py.r g a).p I' v) as vs → Q vs H') ∧ as.length = es.length
section
variable {X : Cx} {g : Gb} {B : Bs} {J : Hp} {S : SL} {e e1 e2 e3 tg : Expr} {es : List Expr} {pos pos' p : Pos} {o α' β' γ' ρ : Type} {K : KT o} {rest body : List Stmt} {α β γ δ : Type} [Py α] [Py β] [Py γ] [Py δ] {m : Option (List α)} {k : List α → RK}
theorem ml_nil : ML X g B S [] (some ([] : List α)) := ⟨fun as q => by cases q; exact ⟨pa_imp pa_nil fun σ H Q ⟨I, hh, kk⟩ => kk [] I H (Ext.refl hh.sub) .nil, rfl⟩⟩
theorem ml_cons {m1 : Option α} {m2 : Option (List α)} (h : ME X g B S e m1 (KI g)) (t : ML X g B S es m2) (hs : starEach (e :: es) X.env = (false, eval e X.env) :: starEach es X.env := by rfl) : ML X g B S (e :: es) (m1 >>= fun a => m2 >>= fun as => some (a :: as)) := by
  refine ⟨fun as q => ?_⟩
  obtain ⟨a, q1, q⟩ := bind_some q
  obtain ⟨as', q2, q3⟩ := bind_some q
  cases q3
  obtain ⟨ht, hl⟩ := t.run as' q2
  refine ⟨pa_imp (pa_cons (h.run a q1) ht hs) fun σ H Q ⟨I, hh, kk⟩ => ⟨I, hh, fun v I1 H1 x1 hv => ⟨I1, hh.ext x1, fun vs I2 H2 x2 hvs => ?_⟩⟩, by rw [List.length_cons, List.length_cons, hl]⟩
  exact kk (v :: vs) I2 H2 (x1.trans x2) (.cons ((Py.r g a).mono x2.i hv) hvs)
theorem me_lst (h : ML X g B S es m) (hz : decide (es.length ≤ 1000) = true := by decide) : ME X g B S (.List es pos) m (fun xs => .fr (rl g xs)) := by
  refine ⟨fun as q => ?_⟩
  obtain ⟨ha, hl⟩ := h.run as q
  refine pe_imp (pe_lst ha) fun σ H Q ⟨I, hh, kk⟩ => ⟨I, hh, fun vs I1 H1 x1 hp => ?_⟩
  have hz' : as.length ≤ sizeLine := by rw [hl]; exact Nat.le_trans (of_decide_eq_true hz) (by decide)
  refine ⟨by rw [← Paired.length hp]; exact hz', fun l hl => new_fr (as := as) x1.s ⟨hz', hp⟩ (fun u I2 H2 x2 hu => kk u I2 H2 (x1.trans x2) (RK.back rfl x1.h hu)) hl⟩
theorem me_t2 {m1 : Option α} {m2 : Option β} {n : Nat} (h1 : ME X g B S e1 m1 (KI g)) (h2 : ME X g B S e2 m2 (KI g)) (hs : starEach [e1, e2] X.env = (false, eval e1 X.env) :: starEach [e2] X.env := by rfl) (hs2 : starEach [e2] X.env = (false, eval e2 X.env) :: starEach [] X.env := by rfl) :
    ME X g B S (.Tuple [e1, e2] n pos) (m1 >>= fun a => m2 >>= fun b => some (T2.mk a b)) (KI g) := by
  refine ⟨fun t q => ?_⟩
  obtain ⟨a, q1, q⟩ := bind_some q
  obtain ⟨b, q2, q3⟩ := bind_some q
  cases q3
  refine pe_imp (pe_tup (pa_cons (h1.run a q1) (pa_cons (h2.run b q2) pa_nil hs2) hs)) fun σ H Q ⟨I, hh, kk⟩ => ⟨I, hh, fun v I1 H1 x1 hv => ⟨I1, hh.ext x1, fun w I2 H2 x2 hw => ⟨by show 2 ≤ sizeLine; decide, fun l hl => ?_⟩⟩⟩
  have hI := x2.s.free hl
  refine kk _ (upd I2 l (.tup [v, w])) _ ((x1.trans x2).trans ⟨same_new hI, SW.of (same_new hl), fun b ob eb => ?_, fun b n1 n2 => ?_⟩) ⟨l, v, w, rfl, SqT.of upd_same, (Py.r g a).mono (x2.i.trans (same_new hI)) hv, (Py.r g b).mono (same_new hI) hw⟩
  · by_cases hb : b = l
    · subst hb; rw [upd_same] at eb ⊢; exact eb
    · rw [upd_ne hb] at eb ⊢; exact x2.s _ _ eb
  · rw [upd_ne (fun z => n1 (by rw [z]; exact hl))]; exact n2
theorem me_t3 {m1 : Option α} {m2 : Option β} {m3 : Option γ} {n : Nat} (h1 : ME X g B S e1 m1 (KI g)) (h2 : ME X g B S e2 m2 (KI g)) (h3 : ME X g B S e3 m3 (KI g)) (hs : starEach [e1, e2, e3] X.env = (false, eval e1 X.env) :: starEach [e2, e3] X.env := by rfl) (hs2 : starEach [e2, e3] X.env = (false, eval e2 X.env) :: starEach [e3] X.env := by rfl) (hs3 : starEach [e3] X.env = (false, eval e3 X.env) :: starEach [] X.env := by rfl) :
    ME X g B S (.Tuple [e1, e2, e3] n pos) (m1 >>= fun a => m2 >>= fun b => m3 >>= fun c => some (T3.mk a b c)) (KI g) := by
  refine ⟨fun t q => ?_⟩
  obtain ⟨a, q1, q⟩ := bind_some q
  obtain ⟨b, q2, q⟩ := bind_some q
  obtain ⟨c, q3, q4⟩ := bind_some q
  cases q4
  refine pe_imp (pe_tup (pa_cons (h1.run a q1) (pa_cons (h2.run b q2) (pa_cons (h3.run c q3) pa_nil hs3) hs2) hs)) fun σ H Q ⟨I, hh, kk⟩ => ⟨I, hh, fun v I1 H1 x1 hv => ⟨I1, hh.ext x1, fun w I2 H2 x2 hw => ⟨I2, (hh.ext x1).ext x2, fun u I3 H3 x3 hu => ⟨by show 3 ≤ sizeLine; decide, fun l hl => ?_⟩⟩⟩⟩
  have hI := x3.s.free hl
  refine kk _ (upd I3 l (.tup [v, w, u])) _ (((x1.trans x2).trans x3).trans ⟨same_new hI, SW.of (same_new hl), fun b ob eb => ?_, fun b n1 n2 => ?_⟩) ⟨l, v, w, u, rfl, SqT.of upd_same, (Py.r g a).mono ((x2.i.trans x3.i).trans (same_new hI)) hv, (Py.r g b).mono (x3.i.trans (same_new hI)) hw, (Py.r g c).mono (same_new hI) hu⟩
  · by_cases hb : b = l
    · subst hb; rw [upd_same] at eb ⊢; exact eb
    · rw [upd_ne hb] at eb ⊢; exact x3.s _ _ eb
  · rw [upd_ne (fun z => n1 (by rw [z]; exact hl))]; exact n2
theorem me_t4 {e4 : Expr} {m1 : Option α} {m2 : Option β} {m3 : Option γ} {m4 : Option δ} {n : Nat} (h1 : ME X g B S e1 m1 (KI g)) (h2 : ME X g B S e2 m2 (KI g)) (h3 : ME X g B S e3 m3 (KI g)) (h4 : ME X g B S e4 m4 (KI g)) (hs : starEach [e1, e2, e3, e4] X.env = (false, eval e1 X.env) :: starEach [e2, e3, e4] X.env := by rfl) (hs2 : starEach [e2, e3, e4] X.env = (false, eval e2 X.env) :: starEach [e3, e4] X.env := by rfl) (hs3 : starEach [e3, e4] X.env = (false, eval e3 X.env) :: starEach [e4] X.env := by rfl) (hs4 : starEach [e4] X.env = (false, eval e4 X.env) :: starEach [] X.env := by rfl) :
    ME X g B S (.Tuple [e1, e2, e3, e4] n pos) (m1 >>= fun a => m2 >>= fun b => m3 >>= fun c => m4 >>= fun d => some (T4.mk a b c d)) (KI g) := by
  refine ⟨fun t q => ?_⟩
  obtain ⟨a, q1, q⟩ := bind_some q
  obtain ⟨b, q2, q⟩ := bind_some q
  obtain ⟨c, q3, q⟩ := bind_some q
  obtain ⟨d, q4, q5⟩ := bind_some q
  cases q5
  refine pe_imp (pe_tup (pa_cons (h1.run a q1) (pa_cons (h2.run b q2) (pa_cons (h3.run c q3) (pa_cons (h4.run d q4) pa_nil hs4) hs3) hs2) hs)) fun σ H Q ⟨I, hh, kk⟩ => ⟨I, hh, fun v I1 H1 x1 hv => ⟨I1, hh.ext x1, fun w I2 H2 x2 hw => ⟨I2, (hh.ext x1).ext x2, fun u I3 H3 x3 hu => ⟨I3, ((hh.ext x1).ext x2).ext x3, fun y I4 H4 x4 hy => ⟨by show 4 ≤ sizeLine; decide, fun l hl => ?_⟩⟩⟩⟩⟩
  have hI := x4.s.free hl
  refine kk _ (upd I4 l (.tup [v, w, u, y])) _ ((((x1.trans x2).trans x3).trans x4).trans ⟨same_new hI, SW.of (same_new hl), fun b ob eb => ?_, fun b n1 n2 => ?_⟩) ⟨l, v, w, u, y, rfl, SqT.of upd_same, (Py.r g a).mono (((x2.i.trans x3.i).trans x4.i).trans (same_new hI)) hv, (Py.r g b).mono ((x3.i.trans x4.i).trans (same_new hI)) hw, (Py.r g c).mono (x4.i.trans (same_new hI)) hu, (Py.r g d).mono (same_new hI) hy⟩
  · by_cases hb : b = l
    · subst hb; rw [upd_same] at eb ⊢; exact eb
    · rw [upd_ne hb] at eb ⊢; exact x4.s _ _ eb
  · rw [upd_ne (fun z => n1 (by rw [z]; exact hl))]; exact n2
end

/-! slices, +, * of lists -/
/-- xs[lo:hi] -/
def cutO {α : Type} (xs : List α) (lo hi : Option Int) : List α := (xs.drop (HT.sIx xs.length 0 lo)).take (HT.sIx xs.length xs.length hi - HT.sIx xs.length 0 lo)
structure MO (X : Cx) (g : Gb) (B : Bs) (S : SL) (e : Option Expr) (m : Option (Option Int)) : Prop where
  run : ∀ i, m = some i → PO X e (fun σ H Q => ∃ I, Hold g B S σ I H ∧ ∀ I' H', Ext I H I' H' → Q i H')
def catOk (n k : Nat) : Bool := decide (n + k ≤ sizeLine)
@[irreducible] def catO {α : Type} (xs ys : List α) : Option (List α) := if catOk xs.length ys.length = true then some (xs ++ ys) else none
def repOk (n : Nat) (k : Int) : Bool := decide (-(2 ^ 63) ≤ k ∧ k < 2 ^ 63) && decide (n * k.toNat ≤ sizeLine)
@[irreducible] def repO {α : Type} (xs : List α) (k : Int) : Option (List α) := if repOk xs.length k = true then some (List.replicate k.toNat xs).flatten else none
section
variable {X : Cx} {g : Gb} {B : Bs} {J : Hp} {S : SL} {e e1 e2 e3 tg : Expr} {oe oe2 : Option Expr} {es : List Expr} {pos pos' p p2 : Pos} {o α' β' γ' ρ : Type} {K : KT o} {rest body : List Stmt} {α β γ δ : Type} [Py α] [Py β] [Py γ] [Py δ] {m : Option (List α)} {k k2 : List α → RK}
theorem po_imp {t t' : TO} (h : PO X oe t) (f : ∀ σ H Q, t' σ H Q → t σ H Q) : PO X oe t' := ⟨fun pins s σ H Q I hw => h.run pins s σ H Q I (f σ H Q hw)⟩
theorem mo_none : MO X g B S none (some none) := ⟨fun i q => by cases q; exact po_imp po_none fun σ H Q ⟨I, hh, kk⟩ => kk I H (Ext.refl hh.sub)⟩
theorem mo_some {m : Option Int} (h : ME X g B S e m (KI g)) : MO X g B S (some e) (m >>= fun i => some (some i)) := by
  refine ⟨fun i q => ?_⟩
  obtain ⟨a, q1, q2⟩ := bind_some q
  cases q2
  exact po_imp (po_some (h.run a q1)) fun σ H Q ⟨I, hh, kk⟩ => ⟨I, hh, fun v I' H' x hv => ⟨a, hv, kk I' H' x⟩⟩
theorem me_cut {m1 m2 : Option (Option Int)} (h : ME X g B S e m k) (h1 : MO X g B S oe m1) (h2 : MO X g B S oe2 m2) (r : LR g k := by first | exact lr_im | exact lr_fr | exact lr_rd) (hK : X.K = g.K := by rfl) :
    ME X g B S (.Subscript e (.Slice oe oe2 none p2) pos) (m >>= fun xs => m1 >>= fun lo => m2 >>= fun hi => some (cutO xs lo hi)) (fun xs => .fr (rl g xs)) := by
  refine ⟨fun as q => ?_⟩
  obtain ⟨xs, q1, q⟩ := bind_some q
  obtain ⟨lo, q2, q⟩ := bind_some q
  obtain ⟨hi, q3, q4⟩ := bind_some q
  cases q4
  refine pe_imp (pe_slice sl_list (h.run xs q1) (h1.run lo q2) (h2.run hi q3)) fun σ H Q ⟨I, hh, kk⟩ => ⟨I, hh, fun v I1 H1 x1 hv => ⟨I1, hh.ext x1, fun I2 H2 x2 => ⟨I2, (hh.ext x1).ext x2, fun I3 H3 x3 => ?_⟩⟩⟩
  obtain ⟨l, vs, rfl, h3, h4⟩ := r xs _ _ _ _ x3.s (RK.ext (RK.ext hv x2 hh.tb.has) x3 hh.tb.has)
  refine ⟨l, vs, rfl, by rw [hK]; exact h3, fun p hp => ?_⟩
  have hlen := rl_len h4
  refine new_fr (as := cutO xs lo hi) x3.s ?_ (fun u I4 H4 x4 hu => kk u I4 H4 (((x1.trans x2).trans x3).trans x4) (RK.back rfl ((x1.trans x2).trans x3).h hu)) hp
  unfold cutO cutV
  rw [hlen]
  refine ⟨?_, paired_take _ (paired_drop _ h4.2)⟩
  rw [List.length_take, List.length_drop]
  have := h4.1
  omega
theorem op_catS : OpR X (binaryOp .Add) (fun x y H Q => ∃ l b xs zs, x = .ref l ∧ y = .ref b ∧ SqL X.K H l xs ∧ SqL X.K H b zs ∧ xs.length + zs.length ≤ sizeLine ∧ ∀ p, H p = none → Q (.ref p) (upd H p (.lst (xs ++ zs)))) := by
  intro pins s σ H x y v u Q I rx ry h
  obtain ⟨l, b, xs, zs, rfl, rfl, hH, hB, hz, q⟩ := h
  cases rx
  cases ry
  obtain ⟨its, r, pl, z⟩ := I.list hH
  obtain ⟨its2, r2, pl2, z2⟩ := I.list hB
  have hl := r.length
  have hl2 := r2.length
  obtain ⟨⟨cls, dd, data, sl⟩, ho, hc, n, hd⟩ := pl.isList
  obtain ⟨⟨cls2, dd2, data2, sl2⟩, ho2, hc2, n2, hd2⟩ := pl2.isList
  simp only at hc hd hc2 hd2
  subst hc hd hc2 hd2
  have ea : its.toArray ++ its2.toArray = (its ++ its2).toArray := by simp
  refine concat_meets ⟨_, ho, rfl⟩ ⟨_, ho2, rfl⟩ noFill_list_add seq_list_add PySem.F.slot_list_add PySem.F.entry_list_add (PySem.F.args_list_add_2 _ _) (list_addW l b its.toArray its2.toArray n n2 dd dd2 sl sl2 (by rw [List.size_toArray, List.size_toArray]; omega)) ⟨ho, ho2, ?_⟩
  rw [ea]
  exact ⟨.ref _, _, I.lnew (t' := s.toks) (r.append r2) (by rw [List.length_append]; omega), rfl, q _ I.fresh⟩
theorem me_cat {m2 : Option (List α)} (h : ME X g B S e1 m k) (h2 : ME X g B S e2 m2 k2) (r : LR g k := by first | exact lr_im | exact lr_fr | exact lr_rd) (r2 : LR g k2 := by first | exact lr_im | exact lr_fr | exact lr_rd) (hK : X.K = g.K := by rfl) :
    ME X g B S (.BinOp e1 .Add e2 pos) (m >>= fun xs => m2 >>= fun ys => catO xs ys) (fun xs => .fr (rl g xs)) :=
  me_bin op_catS h h2 (fun a b c q v w I H H0 H1 Q s hv hw kk => by
    unfold catO at q
    by_cases hc : catOk a.length b.length = true
    · rw [if_pos hc] at q
      cases q
      obtain ⟨l, vs, rfl, h3, h4⟩ := r a _ _ _ _ s hv
      obtain ⟨l2, ws, rfl, h5, h6⟩ := r2 b _ _ _ _ s hw
      have hz : a.length + b.length ≤ sizeLine := of_decide_eq_true hc
      refine ⟨l, l2, vs, ws, rfl, rfl, by rw [hK]; exact h3, by rw [hK]; exact h5, by rw [rl_len h4, rl_len h6]; exact hz, fun p hp => new_fr (as := a ++ b) s ⟨by rw [List.length_append]; exact hz, paired_app h4.2 h6.2⟩ kk hp⟩
    · rw [if_neg hc] at q
      cases q)
theorem me_rep {m2 : Option Int} (h : ME X g B S e1 m (fun xs => .fr (rl g xs))) (h2 : ME X g B S e2 m2 (KI g)) :
    ME X g B S (.BinOp e1 .Mult e2 pos) (m >>= fun xs => m2 >>= fun n => repO xs n) (fun xs => .fr (rl g xs)) :=
  me_bin op_rep h h2 (fun a b c q v w I H H0 H1 Q s hv hw kk => by
    unfold repO at q
    by_cases hc : repOk a.length b = true
    · rw [if_pos hc] at q
      cases q
      obtain ⟨l, vs, rfl, _, _, h3, h4⟩ := hv
      unfold repOk at hc
      rw [Bool.and_eq_true, decide_eq_true_eq, decide_eq_true_eq] at hc
      have hl := rl_len h4
      refine ⟨l, b, vs, rfl, hw, h3, hc.1.1, hc.1.2, by rw [hl]; exact hc.2, fun p hp => new_fr (as := (List.replicate b.toNat a).flatten) s ⟨?_, paired_rep h4.2 _⟩ kk hp⟩
      rw [List.length_flatten, List.map_replicate, List.sum_replicate_nat, Nat.mul_comm]
      exact hc.2
    · rw [if_neg hc] at q
      cases q)
end
/-- xs.append(x) -/
@[irreducible] def appO {α : Type} (xs : List α) (x : α) : Option (List α) := if decide (xs.length < sizeLine) = true then some (xs ++ [x]) else none
@[irreducible] def setO {α : Type} (xs : List α) (i : Int) (x : α) : Option (List α) := (ixN xs.length i).bind fun j => some (xs.set j x)
section
variable {X : Cx} {g : Gb} {B : Bs} {J : Hp} {S : SL} {e e1 e2 e3 tg : Expr} {es : List Expr} {pos pos' p p2 p3 : Pos} {o α' β' γ' ρ : Type} {K : KT o} {rest body : List Stmt} {α β γ δ : Type} [Py α] [Py β] [Py γ] [Py δ]
/-- an owned fragment written: F becomes F', the heap H becomes H' -/
theorem Ok.wrt {σ : L2.St} {I H I' H' : Hp} {i : Nat} {k : RK} {v : V} {F' : Hp} (ok : Ok g B J S σ I H) (e1 : σ[i]? = some (some v)) (w : ∀ Φ, HoldF g B S σ I H Φ → Same I I' ∧ Same I' H' ∧ (∀ l, H l ≠ none → I l = none → I' l = none) ∧ (∀ a o, H a = some o → (Φ i a = none ∨ ∃ f, o = .ext f) → H' a = some o) ∧ Same F' H' ∧ (∀ a, F' a ≠ none → Φ i a ≠ none ∨ (H a = none ∧ I' a = none)) ∧ RK.inS g k B.H v I' F') :
    Ok g B J (S.set i (some k)) σ I' H' := by
  obtain ⟨x, oj, Φ, h⟩ := ok
  obtain ⟨sI, sH, n, keep, sF, nF, hv⟩ := w Φ h
  have other : ∀ a o, B.H a = some o → Φ i a = none := fun a o e => by
    cases q : Φ i a with
    | none => rfl
    | some u => have := (h.fr i a u q).2.2; rw [e] at this; cases this
  have tH : Tbs H' := h.tb.t.keep (fun p hp o e => keep _ o e (.inl (h.noT i p hp))) fun a f e => keep a _ e (.inr ⟨f, rfl⟩)
  have sB : SW B.H H' := h.base.kept tH fun a o o' e e' => keep a o' e' (.inl (other a o e))
  have hσ : σ.set i (some v) = σ := by
    apply List.ext_getElem?
    intro j
    by_cases hj : i = j
    · subst hj
      rw [List.getElem?_set_self (List.getElem?_eq_some_iff.mp e1).1, e1]
    · rw [List.getElem?_set_ne hj]
  have h1 : HoldF g B S σ I' H' (putF Φ i (fun _ => none)) → False → False := fun _ z => z
  refine ⟨⟨x.i.trans sI, sB, sH, fun l n1 n2 => ?_⟩, oj.trans sI, putF Φ i F', ?_⟩
  · cases e : B.H l with
    | none => exact absurd e n1
    | some o => exact n l (fun z => n1 (h.base.f l z)) (x.n l n1 n2)
  · have h2 : HoldF g B (S.set i (some k)) (σ.set i (some v)) I' H' (putF Φ i F') := by
      refine ⟨by rw [List.length_set, List.length_set, h.len], sH, sB, ⟨tH, h.tb.b, fun p hp => n _ (h.tb.t.ne hp) (h.tb.i p hp)⟩, fun j k' e => ?_, fun j a o e => ?_, fun j l a hj hl => ?_⟩
      · rcases set_some e with ⟨a, b, c⟩ | ⟨a, b⟩
        · subst a
          cases b
          exact ⟨v, List.getElem?_set_self (by rw [h.len]; exact c), by rw [putF_same]; exact hv⟩
        · obtain ⟨u, e2, q⟩ := h.at_ j k' b
          exact ⟨u, by rw [List.getElem?_set_ne a]; exact e2, by rw [putF_ne (fun z => a z.symm)]; exact RK.inS_mono sI q⟩
      · by_cases hji : j = i
        · rw [hji, putF_same] at e
          refine ⟨sF a o e, ?_⟩
          rcases nF a (ne_of_some e) with z | ⟨z1, z2⟩
          · obtain ⟨f1, f2, f3⟩ := h.ne z
            exact ⟨n a f1 f2, f3⟩
          · exact ⟨z2, h.base.free z1⟩
        · rw [putF_ne hji] at e
          obtain ⟨f1, f2, f3⟩ := h.fr j a o e
          refine ⟨keep a o f1 (.inl ?_), n a (ne_of_some f1) f2, f3⟩
          cases q : Φ i a with
          | none => rfl
          | some u => exact absurd (h.dj j i a (ne_of_some e) (ne_of_some q)) hji
      · have no : ∀ m, m ≠ i → F' a ≠ none → Φ m a ≠ none → False := fun m hm f1 f2 => by
          rcases nF a f1 with z | ⟨z1, _⟩
          · exact hm (h.dj m i a f2 z)
          · exact (h.ne f2).1 z1
        by_cases hji : j = i
        · by_cases hli : l = i
          · rw [hji, hli]
          · rw [hji, putF_same] at hj
            rw [putF_ne hli] at hl
            exact (no l hli hj hl).elim
        · by_cases hli : l = i
          · rw [hli, putF_same] at hl
            rw [putF_ne hji] at hj
            exact (no j hji hl hj).elim
          · rw [putF_ne hji] at hj
            rw [putF_ne hli] at hl
            exact h.dj j l a hj hl
    rw [hσ] at h2
    exact h2
/-- an owned list written -/
theorem Ok.write {σ : L2.St} {I H : Hp} {i : Nat} {l : Addr} {q0 : PL} {bs : List α} {ws : List V} (ok : Ok g B J S σ I H) (hS : S[i]? = some (some (.fr q0))) (e1 : σ[i]? = some (some (.ref l))) (hw : (rl g bs).p I ws) : Ok g B J (S.set i (some (.fr (rl g bs)))) σ I (upd H l (.lst ws)) := by
  have hsub := ok.h.sub
  refine ok.wrt e1 (F' := one1 l (.lst ws)) fun Φ h => ?_
  obtain ⟨v, e2, l', vs, e3, f1, f2⟩ := h.at_ i _ hS
  rw [e1] at e2
  cases e2
  cases e3
  obtain ⟨g1, g2, g3⟩ := h.fr i l _ f1
  refine ⟨Same.refl _, fun a o e => ?_, fun a _ z => z, fun a o e z => ?_, fun a o e => ?_, fun a ha => ?_, l, ws, rfl, one1_same, hw⟩
  · rw [upd_ne (ne_of_none e g2)]
    exact hsub a o e
  · have : a ≠ l := fun y => by
      rcases z with z | ⟨f, z⟩
      · rw [y, f1] at z; cases z
      · rw [y, g1, z] at e; cases e
    rw [upd_ne this]
    exact e
  · obtain ⟨y1, y2⟩ := one1_some e
    rw [y1, y2, upd_same]
  · rw [one1_ne ha]
    exact .inl (ne_of_some f1)
end
end T
set_option Elab.async false
set_option linter.all false
set_option maxRecDepth 100000
namespace T
variable [TabsC]
open PySem PySem.Spec PyProof.Rows L2

/-! lists that stand still through a loop: those that stay, and the caller's -/
structure MSt {α : Type} [Py α] (X : Cx) (g : Gb) (B : Bs) (S : SL) (e : Expr) (m : Option (List α)) : Prop where
  run : ∀ as, m = some as → PE X e (fun σ H Q => ∃ I, Hold g B S σ I H ∧ ∀ l vs I' H', Ext I H I' H' → (SqL g.K I' l vs ∨ SqL g.K B.H l vs) → (rl g as).p I' vs → Q (.ref l) H')
section
variable {X : Cx} {g : Gb} {B : Bs} {J : Hp} {S : SL} {e e1 e2 e3 tg : Expr} {oe oe2 : Option Expr} {es : List Expr} {pos pos' p p2 p3 apos cpos : Pos} {o α' β' γ' ρ : Type} {K : KT o} {rest body : List Stmt} {α β γ δ : Type} [Py α] [Py β] [Py γ] [Py δ] {m : Option (List α)} {k k2 : List α → RK}
theorem ms_im (h : ME X g B S e m (KI g)) : MSt X g B S e m :=
  ⟨fun as q => pe_imp (h.run as q) fun σ H Q ⟨I, hh, k⟩ => ⟨I, hh, fun v I' H' x ⟨l, vs, e, h1, h2⟩ => e ▸ k l vs I' H' x (.inl h1) h2⟩⟩
theorem ms_bw (i : Nat) {x : Str} {as : List α} (hS : S[i]? = some (some (.bw (rl g as))) := by rfl) (hN : X.N[i]? = some x := by rfl) (hv : Vis X.env.scope x := by first | exact Or.inl rfl | exact Or.inr (Or.inl rfl) | exact Or.inr (Or.inr rfl))
    (hd : (x == ("__debug__" : Str)) = false := by decide) (hcd : (x == ("__classdict__" : Str)) = false := by decide) : MSt X g B S (.Name x pos) (some as) := by
  refine ⟨fun as' q => ?_⟩
  cases q
  refine pe_imp (pe_var hN hv hd hcd) fun σ H Q ⟨I, hh, k⟩ => ?_
  obtain ⟨v, e1, l, vs, rfl, h3, h4⟩ := hh.at_ i _ hS
  exact ⟨_, e1, k l vs I H (Ext.refl hh.sub) (.inr h3) h4⟩
theorem sq_now {I1 I2 H2 BH : Hp} {K : PySem.W.Frag} {l : Addr} {vs : List V} (h : SqL K I1 l vs ∨ SqL K BH l vs) (s1 : Same I1 I2) (s2 : Same I2 H2) (s3 : SW BH H2) : SqL K H2 l vs := h.elim (fun z => s2.seq (s1.seq z)) fun z => s3.seq z
theorem mi_lst (h : MSt X g B S e m) (hg : X.K = g.K := by rfl) : MI X g B S tg e m := by
  refine ⟨fun as q => ?_⟩
  refine pi_imp (pi_list (h.run as q)) fun σ H R ⟨I, hh, k⟩ => ⟨I, hh, fun l vs I' H' x h1 h2 => ?_⟩
  rw [hg]
  exact ⟨l, rfl, ⟨vs, sq_now h1 (Same.refl _) x.s (hh.base.trans x.h)⟩, k _ I' H' x (walk_list h1 h2)⟩
/-- places and items -/
def enumL {α : Type} (as : List α) : List (T2 Int α) := (as.zipIdx).map fun p => T2.mk (p.2 : Int) p.1
theorem enum_get {as : List α} {i : Nat} {t : T2 Int α} (h : (enumL as)[i]? = some t) : ∃ a, as[i]? = some a ∧ t = T2.mk (i : Int) a := by
  unfold enumL at h
  rw [List.getElem?_map, List.getElem?_zipIdx] at h
  cases q : as[i]? with
  | none => rw [q] at h; cases h
  | some a =>
    rw [q] at h
    refine ⟨a, rfl, ?_⟩
    have := Option.some.inj h
    rw [← this]
    simp
theorem enum_len {as : List α} : (enumL as).length = as.length := by
  unfold enumL
  rw [List.length_map, List.length_zipIdx]
theorem new_tup {I H : Hp} {T : Addr} {xs : List V} (s : Same I H) (h : H T = none) : Ext I H (upd I T (.tup xs)) (upd H T (.tup xs)) := by
  have hI := s.free h
  refine ⟨same_new hI, SW.of (same_new h), fun b ob eb => ?_, fun b n1 n2 => ?_⟩
  · by_cases hb : b = T
    · subst hb; rw [upd_same] at eb ⊢; exact eb
    · rw [upd_ne hb] at eb ⊢; exact s _ _ eb
  · rw [upd_ne (fun z => n1 (by rw [z]; exact h))]; exact n2
theorem walk_enum {as : List α} {a : Addr} {vs : List V} {I1 : Hp} (hL : SqL g.K I1 a vs ∨ SqL g.K B.H a vs) (hR : (rl g as).p I1 vs) : WalkI g B (Ite g.K a) (enumL as) I1 where
  go := fun i x I2 H2 e s1 s2 s3 => by
    obtain ⟨b, e1, _⟩ := enum_get e
    obtain ⟨v, e2, _⟩ := paired_get hR.2 e1
    exact ⟨vs, v, sq_now hL s1 s2 s3, e2⟩
  yl := fun i x I2 H2 v H' e s1 s2 s3 y => by
    obtain ⟨b, e1, rfl⟩ := enum_get e
    obtain ⟨u, e2, q⟩ := paired_get hR.2 e1
    obtain ⟨T, x, rfl, hT, rfl, y⟩ := y
    have e3 := y vs (sq_now hL s1 s2 s3)
    rw [e2] at e3
    cases e3
    refine ⟨_, new_tup s2 hT, T, _, _, rfl, SqT.of upd_same, rfl, (Py.r g b).mono (s1.trans (same_new (s2.free hT))) q⟩
  st := fun I2 H2 s1 s2 s3 => ⟨vs, sq_now hL s1 s2 s3, by rw [enum_len]; exact Nat.le_of_eq (rl_len hR)⟩
  len := by rw [enum_len]; exact hR.1
theorem mi_enum {elts : List Expr} {kk : Nat} {tpos : Pos} (hm : X.mg "enumerate" = none) (h : MSt X g B S e m) (hg : Gl X "enumerate" := by rfl) (hK : X.K = g.K := by rfl) (hs : starEach [e] X.env = [(false, eval e X.env)] := by rfl) : MI X g B S (.Tuple elts kk tpos) (.Call (.Name "enumerate" p) [e] [] pos) (m >>= fun as => some (enumL as)) := by
  refine ⟨fun as q => ?_⟩
  obtain ⟨xs, q1, q2⟩ := bind_some q
  cases q2
  refine pi_imp (pi_enum hg hm (pa_cons (h.run xs q1) pa_nil hs) hs) fun σ H R ⟨I, hh, k⟩ => ⟨I, hh, fun l vs I' H' x h1 h2 => ?_⟩
  rw [hK]
  exact ⟨l, vs, rfl, sq_now h1 (Same.refl _) x.s (hh.base.trans x.h), k _ I' H' x (walk_enum h1 h2)⟩
/-- items in pairs -/
def zipL {α β : Type} (as : List α) (bs : List β) : List (T2 α β) := (as.zip bs).map fun p => T2.mk p.1 p.2
theorem zip_get {as : List α} {bs : List β} {i : Nat} {t : T2 α β} (h : (zipL as bs)[i]? = some t) : ∃ a b, as[i]? = some a ∧ bs[i]? = some b ∧ t = T2.mk a b := by
  unfold zipL at h
  rw [List.getElem?_map, Option.map_eq_some_iff] at h
  obtain ⟨⟨a, b⟩, h1, rfl⟩ := h
  obtain ⟨h2, h3⟩ := List.getElem?_zip_eq_some.mp h1
  exact ⟨a, b, h2, h3, rfl⟩
theorem zip_len {as : List α} {bs : List β} : (zipL as bs).length = min as.length bs.length := by
  unfold zipL
  rw [List.length_map, List.length_zip]
theorem walk_zip {as : List α} {bs : List β} {a b : Addr} {vs ws : List V} {I1 : Hp} (hL : SqL g.K I1 a vs ∨ SqL g.K B.H a vs) (hR : (rl g as).p I1 vs) (hL2 : SqL g.K I1 b ws ∨ SqL g.K B.H b ws) (hR2 : (rl g bs).p I1 ws) : WalkI g B (Itz g.K a b) (zipL as bs) I1 where
  go := fun i x I2 H2 e s1 s2 s3 => by
    obtain ⟨c, d, e1, e2, _⟩ := zip_get e
    obtain ⟨v, e3, _⟩ := paired_get hR.2 e1
    obtain ⟨w, e4, _⟩ := paired_get hR2.2 e2
    exact ⟨vs, ws, v, w, sq_now hL s1 s2 s3, sq_now hL2 s1 s2 s3, e3, e4⟩
  yl := fun i x I2 H2 v H' e s1 s2 s3 y => by
    obtain ⟨c, d, e1, e2, rfl⟩ := zip_get e
    obtain ⟨u, e3, q⟩ := paired_get hR.2 e1
    obtain ⟨u2, e4, q2⟩ := paired_get hR2.2 e2
    obtain ⟨T, x, x2, rfl, hT, rfl, y1, y2⟩ := y
    have e5 := y1 vs (sq_now hL s1 s2 s3)
    have e6 := y2 ws (sq_now hL2 s1 s2 s3)
    rw [e3] at e5
    rw [e4] at e6
    cases e5
    cases e6
    have sT := s1.trans (same_new (o := .tup [u, u2]) (s2.free hT))
    exact ⟨_, new_tup s2 hT, T, _, _, rfl, SqT.of upd_same, (Py.r g c).mono sT q, (Py.r g d).mono sT q2⟩
  st := fun I2 H2 s1 s2 s3 => ⟨vs, ws, sq_now hL s1 s2 s3, sq_now hL2 s1 s2 s3, by
    rw [zip_len, rl_len hR, rl_len hR2]
    omega⟩
  len := by
    rw [zip_len]
    have := hR.1
    omega
theorem mi_zip {elts : List Expr} {kk : Nat} {tpos : Pos} {m2 : Option (List β)} (hm : X.mg "zip" = none) (h : MSt X g B S e m) (h2 : MSt X g B S e2 m2) (hg : Gl X "zip" := by rfl) (hK : X.K = g.K := by rfl) (hs : starEach [e, e2] X.env = (false, eval e X.env) :: starEach [e2] X.env := by rfl) (hs2 : starEach [e2] X.env = (false, eval e2 X.env) :: starEach [] X.env := by rfl) (hpl : (backTo pos (starEach [e2] X.env)).any (·.1) = false := by rfl) :
    MI X g B S (.Tuple elts kk tpos) (.Call (.Name "zip" p) [e, e2] [] pos) (m >>= fun as => m2 >>= fun bs => some (zipL as bs)) := by
  refine ⟨fun as q => ?_⟩
  obtain ⟨xs, q1, q⟩ := bind_some q
  obtain ⟨ys, q2, q3⟩ := bind_some q
  cases q3
  refine pi_imp (pi_zip hg hm (pa_cons (h.run xs q1) (pa_cons (h2.run ys q2) pa_nil hs2) hs) hs hpl) fun σ H R ⟨I, hh, k⟩ => ⟨I, hh, fun l vs I1 H1 x1 h1 hr => ⟨I1, hh.ext x1, fun l2 ws I2 H2 x2 h3 hr2 => ?_⟩⟩
  rw [hK]
  have h1' : SqL g.K I2 l vs ∨ SqL g.K B.H l vs := h1.imp (fun z => x2.i.seq z) id
  have sb := (hh.base.trans x1.h).trans x2.h
  exact ⟨l, l2, vs, ws, rfl, sq_now h1' (Same.refl _) x2.s sb, sq_now h3 (Same.refl _) x2.s sb, k _ I2 H2 (x1.trans x2) (walk_zip h1' ((rl g xs).mono x2.i hr) h3 hr2)⟩

/-! targets -/
theorem mg_t2 (i j : Nat) {x y : Str} {k : Nat} (hN : X.N.Nodup) (hi : X.N[i]? = some x := by rfl) (hj : X.N[j]? = some y := by rfl) (hx : Loc X.env.scope x := by first | exact Or.inl rfl | exact Or.inr rfl) (hy : Loc X.env.scope y := by first | exact Or.inl rfl | exact Or.inr rfl) (hf : X.fn x = true ∨ X.env.scope.names.lookup x = some .local := by first | exact .inl rfl | exact .inr rfl) (hf2 : X.fn y = true ∨ X.env.scope.names.lookup y = some .local := by first | exact .inl rfl | exact .inr rfl)
    (hc : X.calm = true := by rfl) (hK : X.K = g.K := by rfl) (hn : (assignEach [Expr.Name x p, Expr.Name y p2] X.env).length = 2 := by rfl) (hst : (assignEach [Expr.Name x p, Expr.Name y p2] X.env).findIdx? (·.1) = none := by rfl) (hs : (assignEach [Expr.Name x p, Expr.Name y p2] X.env).map (·.2) = assign (.Name x p) X.env :: (assignEach [Expr.Name y p2] X.env).map (·.2) := by rfl) (hs2 : (assignEach [Expr.Name y p2] X.env).map (·.2) = assign (.Name y p2) X.env :: (assignEach [] X.env).map (·.2) := by rfl) :
    MG (α := T2 α β) X g (.Tuple [.Name x p, .Name y p2] k pos) (gTup g.K 2 (gCons (gName i) (gCons (gName j) gNil))) (fun t S => (S.set i (some (.im (Py.r g t.x0)))).set j (some (.im (Py.r g t.x1)))) [i, j] :=
  ⟨by rw [← hK]; exact pg_tup hc (pgs_cons (pg_name hN hi hx hf) (pgs_cons (pg_name hN hj hy hf2) pgs_nil hs2) hs) hn hst, fun B S t v σ I H Q h ⟨q, a, b, e, h0, h1, h2⟩ k => ⟨q, [a, b], e, seqT h.sub h0, rfl, a, [b], rfl, b, [], rfl, rfl, k _ (hold_put (hold_put h h1) h2) fun vs ht => (wipe_set (ht j (by simp))).trans (wipe_set (ht i (by simp)))⟩⟩
theorem mg_t3 (i j l : Nat) {x y z : Str} {k : Nat} (hN : X.N.Nodup) (hi : X.N[i]? = some x := by rfl) (hj : X.N[j]? = some y := by rfl) (hl : X.N[l]? = some z := by rfl) (hx : Loc X.env.scope x := by first | exact Or.inl rfl | exact Or.inr rfl) (hy : Loc X.env.scope y := by first | exact Or.inl rfl | exact Or.inr rfl) (hz : Loc X.env.scope z := by first | exact Or.inl rfl | exact Or.inr rfl) (hf : X.fn x = true ∨ X.env.scope.names.lookup x = some .local := by first | exact .inl rfl | exact .inr rfl) (hf2 : X.fn y = true ∨ X.env.scope.names.lookup y = some .local := by first | exact .inl rfl | exact .inr rfl) (hf3 : X.fn z = true ∨ X.env.scope.names.lookup z = some .local := by first | exact .inl rfl | exact .inr rfl)
    (hc : X.calm = true := by rfl) (hK : X.K = g.K := by rfl) (hn : (assignEach [Expr.Name x p, Expr.Name y p2, Expr.Name z p3] X.env).length = 3 := by rfl) (hst : (assignEach [Expr.Name x p, Expr.Name y p2, Expr.Name z p3] X.env).findIdx? (·.1) = none := by rfl) (hs : (assignEach [Expr.Name x p, Expr.Name y p2, Expr.Name z p3] X.env).map (·.2) = assign (.Name x p) X.env :: (assignEach [Expr.Name y p2, Expr.Name z p3] X.env).map (·.2) := by rfl) (hs2 : (assignEach [Expr.Name y p2, Expr.Name z p3] X.env).map (·.2) = assign (.Name y p2) X.env :: (assignEach [Expr.Name z p3] X.env).map (·.2) := by rfl) (hs3 : (assignEach [Expr.Name z p3] X.env).map (·.2) = assign (.Name z p3) X.env :: (assignEach [] X.env).map (·.2) := by rfl) :
    MG (α := T3 α β γ) X g (.Tuple [.Name x p, .Name y p2, .Name z p3] k pos) (gTup g.K 3 (gCons (gName i) (gCons (gName j) (gCons (gName l) gNil)))) (fun t S => ((S.set i (some (.im (Py.r g t.x0)))).set j (some (.im (Py.r g t.x1)))).set l (some (.im (Py.r g t.x2)))) [i, j, l] :=
  ⟨by rw [← hK]; exact pg_tup hc (pgs_cons (pg_name hN hi hx hf) (pgs_cons (pg_name hN hj hy hf2) (pgs_cons (pg_name hN hl hz hf3) pgs_nil hs3) hs2) hs) hn hst, fun B S t v σ I H Q h ⟨q, a, b, c, e, h0, h1, h2, h3⟩ k => ⟨q, [a, b, c], e, seqT h.sub h0, rfl, a, [b, c], rfl, b, [c], rfl, c, [], rfl, rfl, k _ (hold_put (hold_put (hold_put h h1) h2) h3) fun vs ht => (wipe_set (ht l (by simp))).trans ((wipe_set (ht j (by simp))).trans (wipe_set (ht i (by simp))))⟩⟩
/-- target = e -/
theorem mb_asg {m : Option α} {put : α → SL → SL} {f : α → Option o} {gt : TG} {ts : List Nat} (he : ME X g B S e m (KI g)) (hG : MG X g tg gt put ts) (hb : ∀ a, MB X g B J (put a S) rest (f a) K) (hs : swapsWithSole [tg] e pos.line X.env = pure false := by rfl) (hw : swappedStores [tg] e X.env = pure none := by rfl) (h1 : (assignEach [tg] X.env).map (·.2) = [assign tg X.env] := by rfl) :
    MB X g B J S (.Assign [tg] e pos :: rest) (m >>= f) K := by
  refine ⟨fun r q => ?_⟩
  obtain ⟨a, q1, q2⟩ := bind_some q
  refine pss_imp (pss_cons (ps_asg (he.run a q1) hG.pg hs hw h1) ((hb a).run r q2)) fun D σ H ⟨I, ok, kk⟩ => ?_
  exact ⟨I, ok.h, fun v I' H' x hv => hG.oks (ok.ext x) hv fun σ' ok' => ⟨I', ok', kk⟩⟩
/-- name op= e, of ints -/
theorem mb_aug (i : Nat) {x : Str} {a : Int} {op : Operator} {fi : Int → Int → Int} {m : Option Int} {f : Int → Option o} (hp : PIp X op (ipI fi)) (hN : X.N.Nodup) (he : ME X g B S e m (KI g)) (hb : ∀ b, MB X g B J (S.set i (some (.im (Py.r g b)))) rest (f b) K) (hS : S[i]? = some (some (.im (Py.r g a))) := by rfl)
    (hi : X.N[i]? = some x := by rfl) (hx : Loc X.env.scope x := by first | exact Or.inl rfl | exact Or.inr rfl) (hf : X.fn x = true ∨ X.env.scope.names.lookup x = some .local := by first | exact .inl rfl | exact .inr rfl) : MB X g B J S (.AugAssign (.Name x pos') op e pos :: rest) (m >>= fun b => f (fi a b)) K := by
  refine ⟨fun r q => ?_⟩
  obtain ⟨b, q1, q2⟩ := bind_some q
  refine pss_imp (pss_cons (ps_aug hN hi hx (he.run b q1) hp hf) ((hb (fi a b)).run r q2)) fun D σ H ⟨I, ok, kk⟩ => ?_
  obtain ⟨v, e1, h1⟩ := ok.h.at_ i _ hS
  exact ⟨v, e1, I, ok.h, fun w I' H' x hw => ⟨a, b, h1, hw, I', ok.put (k := .im (Py.r g (fi a b))) x rfl rfl, kk⟩⟩

/-! lists written -/
theorem mb_app (i : Nat) {x : Str} {as : List α} {m : Option α} {f : List α → Option o} (he : ME X g B S e m (KI g)) (hb : ∀ bs, MB X g B J (S.set i (some (.fr (rl g bs)))) rest (f bs) K) (hS : S[i]? = some (some (.fr (rl g as))) := by rfl) (hN : X.N[i]? = some x := by rfl)
    (hv : Vis X.env.scope x := by first | exact Or.inl rfl | exact Or.inr (Or.inl rfl) | exact Or.inr (Or.inr rfl)) (hs : swapsWith (.Call (.Attribute (.Name x p) "append" apos) [e] [] cpos) none pos.line X.env = pure false := by rfl) (hst : starEach [e] X.env = (false, eval e X.env) :: starEach [] X.env := by rfl)
    (hbase : attributeBase (.Name x p) "append" X.env (eval (.Name x p) X.env) = eval (.Name x p) X.env := by rfl)
    (hfew : ((backTo cpos (starEach [e] X.env)).all (fun x => !x.1) && (backToKw cpos (keywordEach [] X.env)).all (fun x => x.1.isSome) && decide ([e].length + ([] : List Keyword).length + (if ([] : List Keyword).isEmpty then 0 else 1) < 30)) = true := by rfl)
    (hline : (apos.endLine == cpos.line) = true := by rfl) (hplain : (backTo cpos (starEach [] X.env)).any (·.1) = false := by rfl)
    (hd : (x == ("__debug__" : Str)) = false := by decide) (hcd : (x == ("__classdict__" : Str)) = false := by decide) :
    MB X g B J S (.Expr (.Call (.Attribute (.Name x p) "append" apos) [e] [] cpos) pos :: rest) (m >>= fun a => appO as a >>= f) K := by
  refine ⟨fun r q => ?_⟩
  obtain ⟨a, q1, q⟩ := bind_some q
  obtain ⟨bs, q2, q3⟩ := bind_some q
  unfold appO at q2
  by_cases hz : decide (as.length < sizeLine) = true
  · rw [if_pos hz] at q2
    cases q2
    have hz' := of_decide_eq_true hz
    refine pss_imp (pss_cons (ps_expr (pe_bm PySem.F.plainAttrs_list PySem.F.slot_list_append PySem.F.type_list_append mt_append (pe_var hN hv hd hcd) (pa_cons (he.run a q1) pa_nil hst) hbase hfew hline hst hplain) hs) ((hb _).run r q3)) fun D σ H ⟨I, ok, kk⟩ => ?_
    obtain ⟨v, e1, l, vs, rfl, h1, h2, h3, h4⟩ := ok.h.at_ i _ hS
    refine ⟨_, e1, .inl ⟨rfl, _, SqL.of h3⟩, I, ok.h, fun w I' H' x hw => ⟨l, vs, w, rfl, rfl, x.h.get _ _ h3, by rw [rl_len h4]; exact hz', I', (ok.ext x).write hS e1 ⟨?_, paired_app ((rl g as).mono x.i h4).2 (.cons hw .nil)⟩, kk⟩⟩
    rw [List.length_append, List.length_singleton]
    omega
  · rw [if_neg hz] at q2
    cases q2
theorem mb_seti (i : Nat) {x : Str} {as : List α} {m1 : Option Int} {m : Option α} {f : List α → Option o} (he : ME X g B S e m (KI g)) (h1 : ME X g B S e1 m1 (KI g)) (hb : ∀ bs, MB X g B J (S.set i (some (.fr (rl g bs)))) rest (f bs) K) (hS : S[i]? = some (some (.fr (rl g as))) := by rfl) (hN : X.N[i]? = some x := by rfl)
    (hv : Vis X.env.scope x := by first | exact Or.inl rfl | exact Or.inr (Or.inl rfl) | exact Or.inr (Or.inr rfl)) (hs : swapsWithSole [.Subscript (.Name x p) e1 apos] e pos.line X.env = pure false := by rfl) (hw : swappedStores [.Subscript (.Name x p) e1 apos] e X.env = pure none := by rfl)
    (h1' : (assignEach [Expr.Subscript (.Name x p) e1 apos] X.env).map (·.2) = [assign (.Subscript (.Name x p) e1 apos) X.env] := by rfl)
    (ha : ∀ v, assign (.Subscript (.Name x p) e1 apos) X.env v = (do
      let ov ← holding [v] (eval (.Name x p) X.env)
      let iv ← holding [v, ov] (eval e1 X.env)
      standAt apos
      holding [v, ov, iv] (setItem ov iv v)
      release [v, ov, iv] []) := by intro _; rfl)
    (hd : (x == ("__debug__" : Str)) = false := by decide) (hcd : (x == ("__classdict__" : Str)) = false := by decide) :
    MB X g B J S (.Assign [.Subscript (.Name x p) e1 apos] e pos :: rest) (m >>= fun a => m1 >>= fun n => setO as n a >>= f) K := by
  refine ⟨fun r q => ?_⟩
  obtain ⟨a, q1, q⟩ := bind_some q
  obtain ⟨n, q2, q⟩ := bind_some q
  obtain ⟨bs, q3, q4⟩ := bind_some q
  unfold setO at q3
  cases hj : ixN as.length n with
  | none => rw [hj] at q3; cases q3
  | some j =>
    rw [hj] at q3
    cases q3
    refine pss_imp (pss_cons (ps_asg (he.run a q1) (pg_sub (pe_var hN hv hd hcd) (h1.run n q2) set_list ha) hs hw h1') ((hb _).run r q4)) fun D σ H ⟨I, ok, kk⟩ => ?_
    obtain ⟨v, e1, l, vs, rfl, h1, h2, h3, h4⟩ := ok.h.at_ i _ hS
    refine ⟨I, ok.h, fun w I1 H1 x1 hw => ⟨_, e1, I1, ok.h.ext x1, fun y I2 H2 x2 hy => ⟨l, vs, n, j, rfl, hy, x2.h.get _ _ (x1.h.get _ _ h3), by rw [rl_len h4]; exact hj, I2, ((ok.ext x1).ext x2).write hS e1 ⟨?_, paired_set (F := fun a v => (Py.r g a).p I2 v) ((Py.r g a).mono x2.i hw) _ ((rl g as).mono (x1.i.trans x2.i) h4).2⟩, kk⟩⟩⟩
    rw [List.length_set]
    exact h4.1
end
end T
set_option Elab.async false
set_option linter.all false
set_option maxRecDepth 100000
namespace T
variable [TabsC]
open PySem PySem.Spec PyProof.Rows L2

/-! comprehensions -/
def lcM {α β : Type} (f : α → Option β) : List α → Option (List β)
  | [] => some []
  | a :: as => f a >>= fun b => lcM f as >>= fun bs => some (b :: bs)
def lcF {α β : Type} (t : α → Option Bool) (f : α → Option β) : List α → Option (List β)
  | [] => some []
  | a :: as => t a >>= fun b => if b = true then (f a >>= fun y => lcF t f as >>= fun ys => some (y :: ys)) else lcF t f as
theorem lcF_all {α β : Type} (f : α → Option β) : ∀ as : List α, lcF (fun _ => some true) f as = lcM f as
  | [] => rfl
  | a :: as => by
    have e : lcF (fun _ => some true) f (a :: as) = (f a >>= fun y => lcF (fun _ => some true) f as >>= fun ys => some (y :: ys)) := rfl
    rw [e, lcF_all f as]
    rfl
/-- the tests of a comprehension -/
structure MTs (X : Cx) (g : Gb) (B : Bs) (S : SL) (ifs : List Expr) (m : Option Bool) : Prop where
  run : ∀ b, m = some b → PTs X ifs (rdT g B S b)
def wipeS (S : SL) : List Nat → SL
  | [] => S
  | v :: vs => (wipeS S vs).set v none
theorem wipeS_length (S : SL) : ∀ vs, (wipeS S vs).length = S.length
  | [] => rfl
  | v :: vs => by
    show ((wipeS S vs).set v none).length = _
    rw [List.length_set, wipeS_length S vs]
theorem wipeS_some {S : SL} {i : Nat} {k : RK} : ∀ {vs : List Nat}, (wipeS S vs)[i]? = some (some k) → S[i]? = some (some k) ∧ i ∉ vs
  | [], h => ⟨h, by simp⟩
  | v :: vs, h => by
    rcases set_some h with ⟨_, z, _⟩ | ⟨h1, h2⟩
    · cases z
    · obtain ⟨h3, h4⟩ := wipeS_some h2
      exact ⟨h3, fun z => (List.mem_cons.mp z).elim (fun q => h1 q.symm) h4⟩
theorem Hold.wipe {g : Gb} {B : Bs} {S : SL} {σ : L2.St} {I H : Hp} (h : Hold g B S σ I H) (vs : List Nat) : Hold g B (wipeS S vs) (wipe σ vs) I H := by
  have at' : ∀ {i : Nat} {x : V}, (L2.wipe σ vs)[i]? = some (some x) → σ[i]? = some (some x) := fun e => (wipe_some e).1
  obtain ⟨Φ, h⟩ := h
  refine ⟨Φ, by rw [wipe_length, wipeS_length, h.len], h.sub, h.base, h.tb, fun i k e => ?_, h.fr, h.dj⟩
  obtain ⟨e1, e2⟩ := wipeS_some e
  obtain ⟨v, e3, q⟩ := h.at_ i k e1
  exact ⟨v, by rw [wipe_out e2]; exact e3, q⟩
section
variable {X : Cx} {g : Gb} {B : Bs} {J : Hp} {S : SL} {e e1 e2 e3 tg elt iter : Expr} {es ifs : List Expr} {pos pos' p p2 p3 apos cpos : Pos} {o α' β' γ' ρ : Type} {K : KT o} {rest body : List Stmt} {α β γ δ : Type} [Py α] [Py β] [Py γ] [Py δ]
theorem mts_nil : MTs X g B S [] (some true) := ⟨fun b q => by
  cases q
  exact ⟨fun pins s σ H Q I ⟨I', hh, k⟩ => pts_nil.run pins s σ H Q I (k I' H (Ext.refl hh.sub))⟩⟩
theorem mts_one {m : Option Bool} (h : MT X g B S e m) : MTs X g B S [e] m := ⟨fun b q => pts_one (h.run b q)⟩
def rdTs {α : Type} [Py α] (g : Gb) (B : Bs) (Sp : α → SL) (t : α → Option Bool) : TT := fun σ H Q => ∃ a b I, t a = some b ∧ Hold g B (Sp a) σ I H ∧ ∀ I' H', Ext I H I' H' → Q b H'
def rdEs {α β : Type} [Py α] [Py β] (g : Gb) (B : Bs) (Sp : α → SL) (f : α → Option β) : TE := fun σ H Q => ∃ a b I, f a = some b ∧ Hold g B (Sp a) σ I H ∧ ∀ v I' H', Ext I H I' H' → (Py.r g b).p I' v → Q v H'
/-- the heart of a comprehension's reading -/
theorem lc_use {gt : TG} {put : α → SL → SL} {ts vs : List Nat} {t : α → Option Bool} {f : α → Option β} {as : List α} {bs : List β} {σ : L2.St} {H : Hp} {Q : VK} (hts : ∀ i ∈ ts, i ∈ vs)
    (hG : ∀ (B : Bs) (S : SL) (a : α) (v : V) σ I H Q, Hold g B S σ I H → (Py.r g a).p I v → (∀ σ', Hold g B (put a S) σ' I H → (∀ vs, (∀ t ∈ ts, t ∈ vs) → wipe σ' vs = wipe σ vs) → Q σ' H) → gt v σ H Q)
    (hbs : lcF t f as = some bs) (hq : ∃ I, Hold g B S σ I H ∧ ∀ v I' H', Ext I H I' H' → RK.holds g (.fr (rl g bs)) H v I' H' → Q v H') :
    tLc (rdI g B S as) gt (rdTs g B (fun a => put a (wipeS S vs)) t) (rdEs g B (fun a => put a (wipeS S vs)) f) vs σ H Q := by
  obtain ⟨I, hh, kk⟩ := hq
  refine ⟨I, hh, fun J1 I1 H1 x1 hW => ?_⟩
  intro D hD
  have hI1 : I1 D = none := x1.s.free hD
  refine ⟨fun i m H => m = as.length - i ∧ i ≤ as.length ∧ ∃ I2 ds ws rs, lcF t f (as.drop i) = some rs ∧ ds ++ rs = bs ∧ Ext I1 H1 I2 H ∧ I2 D = none ∧ H D = some (.lst ws) ∧ Paired (fun b v => (Py.r g b).p I2 v) ds ws ∧ ds.length ≤ i,
    ⟨as.length, by simp, Nat.zero_le _, I1, [], [], bs, hbs, rfl, ⟨Same.refl _, SW.of (same_new hD), x1.s.trans (same_new hD), fun _ _ h => h⟩, hI1, upd_same, .nil, Nat.le_refl _⟩, ?_⟩
  rintro i m H2 ⟨rfl, hi, I2, ds, ws, rs, hrs, hds, x2, hI2, hH2, hp, hdl⟩
  have hh2 : Hold g B S σ I2 H2 := (hh.ext x1).ext x2
  by_cases hlt : i < as.length
  · have hit : as[i]? = some as[i] := List.getElem?_eq_getElem hlt
    refine .inr ⟨hW.go i _ I2 H2 hit x2.i x2.s hh2.base, fun H => i + 1 ≤ as.length ∧ ∃ I2 ds ws rs, lcF t f (as.drop (i + 1)) = some rs ∧ ds ++ rs = bs ∧ Ext I1 H1 I2 H ∧ I2 D = none ∧ H D = some (.lst ws) ∧ Paired (fun b v => (Py.r g b).p I2 v) ds ws ∧ ds.length ≤ i + 1, fun H' h => ⟨as.length - (i + 1), by omega, rfl, h.1, h.2⟩, fun x H3 hy => ?_⟩
    obtain ⟨I3, x3, hv⟩ := hW.yl i _ I2 H2 x H3 hit x2.i x2.s hh2.base hy
    have hI3 : I3 D = none := x3.n D (by rw [hH2]; simp) hI2
    rw [drop_at hit] at hrs
    obtain ⟨b, e1, e2⟩ := bind_some (show (t as[i] >>= fun b => if b = true then (f as[i] >>= fun y => lcF t f (as.drop (i + 1)) >>= fun ys => some (y :: ys)) else lcF t f (as.drop (i + 1))) = some rs from hrs)
    refine hG B (wipeS S vs) as[i] x (wipe σ vs) I3 H3 _ ((hh2.ext x3).wipe vs) hv fun σ4 h4 hw => ⟨(hw vs hts).trans wipe_wipe, as[i], b, I3, e1, h4, fun I5 H5 x5 => ?_⟩
    have hI5 : I5 D = none := x5.n D (by rw [x3.h.get _ _ hH2]; simp) hI3
    have hH5 : H5 D = some (.lst ws) := x5.h.get _ _ (x3.h.get _ _ hH2)
    cases b with
    | true =>
      rw [if_pos rfl] at e2
      refine iteT ?_
      obtain ⟨y, e3, e4⟩ := bind_some e2
      obtain ⟨ys, e5, e6⟩ := bind_some e4
      cases e6
      refine ⟨as[i], y, I5, e3, h4.ext x5, fun u I6 H6 x6 hu => ⟨ws, x6.h.get _ _ hH5, ?_, hlt, I6, ds ++ [y], ws ++ [u], ys, e5, by rw [List.append_assoc]; exact hds, ?_, x6.n D (by rw [hH5]; simp) hI5, upd_same, ?_, ?_⟩⟩
      · have := hW.len
        rw [← Paired.length hp]
        omega
      · have x16 := ((x2.trans x3).trans x5).trans x6
        refine ⟨x16.i, x16.h.put hD (x6.h.get _ _ hH5), fun c ob ec => ?_, x16.n⟩
        · rw [upd_ne (ne_of_none ec (x6.n D (by rw [hH5]; simp) hI5))]
          exact x16.s _ _ ec
      · exact paired_app (L2.Paired.mapP hp fun c d q => (Py.r g c).mono ((x3.i.trans x5.i).trans x6.i) q) (.cons hu .nil)
      · rw [List.length_append, List.length_singleton]
        omega
    | false =>
      rw [if_neg Bool.false_ne_true] at e2
      refine iteF ?_
      exact ⟨hlt, I5, ds, ws, rs, e2, hds, (x2.trans x3).trans x5, hI5, hH5, L2.Paired.mapP hp fun c d q => (Py.r g c).mono (x3.i.trans x5.i) q, by omega⟩
  · have e : i = as.length := by omega
    subst e
    rw [List.drop_of_length_le (Nat.le_refl _)] at hrs
    cases hrs
    rw [List.append_nil] at hds
    subst hds
    refine .inl ⟨hW.st I2 H2 x2.i x2.s hh2.base, kk _ I2 H2 (x1.trans x2) ⟨D, ws, rfl, x1.h.free hD, hI2, hH2, ?_, hp⟩⟩
    have := hW.len
    omega
/-- [elt for tg in iter if ..] -/
theorem me_lcF {scope : Scope} {own : List (Str × Nat)} {m : Option (List α)} {gt : TG} {put : α → SL → SL} {ts : List Nat} {t : α → Option Bool} {f : α → Option β} (hN : X.N.Nodup) (hi : MI X g B S tg iter m) (hb : blkC X.N X.env.scope scope own = true) (hts : ∀ i ∈ ts, i ∈ own.map (·.2))
    (hG : ∀ (s : Shared) (H : Hp) (C : Addr) (cl : List (Str × Addr)) (fp : List Addr), MG (X.blk s H scope (compEnvC scope cl C X.env) fp) g tg gt put ts)
    (ht : ∀ (s : Shared) (H : Hp) (C : Addr) (cl : List (Str × Addr)) (fp : List Addr) (a : α), MTs (X.blk s H scope (compEnvC scope cl C X.env) fp) g B (put a (wipeS S (own.map (·.2)))) ifs (t a))
    (he : ∀ (s : Shared) (H : Hp) (C : Addr) (cl : List (Str × Addr)) (fp : List Addr) (a : α), ME (X.blk s H scope (compEnvC scope cl C X.env) fp) g B (put a (wipeS S (own.map (·.2)))) elt (f a) (KI g)) (hc : X.calm = true := by rfl) (hs : ∀ x, foldedSetIterable iter X.env x = pure x := by intro _; rfl) :
    ME X g B S (.ListComp elt [⟨tg, iter, ifs, 0⟩] scope pos) (m >>= fun as => lcF t f as) (fun bs => .fr (rl g bs)) := by
  refine ⟨fun bs q => ?_⟩
  obtain ⟨as, q1, q2⟩ := bind_some q
  refine pe_imp (pe_lc (g := gt) (tt := rdTs g B (fun a => put a (wipeS S (own.map (·.2)))) t) (te := rdEs g B (fun a => put a (wipeS S (own.map (·.2)))) f) hc hN (hi.run as q1) (blkOk_by hb) (fun s H C cl fp => (hG s H C cl fp).pg)
    (fun s H C cl fp => ⟨fun pins st σ H Q I ⟨a, b, I2, e1, h, k⟩ => ((ht _ _ C cl fp a).run b e1).run pins st σ H Q I ⟨I2, h, k⟩⟩)
    (fun s H C cl fp => ⟨fun pins st σ H Q I ⟨a, b, I2, e1, h, k⟩ => ((he _ _ C cl fp a).run b e1).run pins st σ H Q I ⟨I2, h, k⟩⟩) hs) fun σ H Q hq => ?_
  exact lc_use hts (hG X.s_0 X.H_0 0 [] []).ok q2 hq
theorem me_lc {scope : Scope} {own : List (Str × Nat)} {m : Option (List α)} {gt : TG} {put : α → SL → SL} {ts : List Nat} {f : α → Option β} (hN : X.N.Nodup) (hi : MI X g B S tg iter m) (hb : blkC X.N X.env.scope scope own = true) (hts : ∀ i ∈ ts, i ∈ own.map (·.2))
    (hG : ∀ (s : Shared) (H : Hp) (C : Addr) (cl : List (Str × Addr)) (fp : List Addr), MG (X.blk s H scope (compEnvC scope cl C X.env) fp) g tg gt put ts)
    (he : ∀ (s : Shared) (H : Hp) (C : Addr) (cl : List (Str × Addr)) (fp : List Addr) (a : α), ME (X.blk s H scope (compEnvC scope cl C X.env) fp) g B (put a (wipeS S (own.map (·.2)))) elt (f a) (KI g)) (hc : X.calm = true := by rfl) (hs : ∀ x, foldedSetIterable iter X.env x = pure x := by intro _; rfl) :
    ME X g B S (.ListComp elt [⟨tg, iter, [], 0⟩] scope pos) (m >>= fun as => lcM f as) (fun bs => .fr (rl g bs)) :=
  (me_lcF (t := fun _ => some true) hN hi hb hts hG (fun _ _ _ _ _ _ => mts_nil) he hc hs).eq (by cases m with
    | none => rfl
    | some as => exact lcF_all f as)
/-- name = [..] on one line -/
theorem mb_setLcF (i : Nat) {x : Str} {scope : Scope} {own : List (Str × Nat)} {m : Option (List α)} {gt : TG} {put : α → SL → SL} {ts : List Nat} {t : α → Option Bool} {f : α → Option β} {fr : List β → Option o} (hN : X.N.Nodup) (hx : X.env.scope.names.lookup x = some .local) (hsw : swapsWith (.ListComp elt [⟨tg, iter, ifs, 0⟩] scope pos) (some (.Name x p)) pos'.line X.env = pure true) (hi : MI X g B S tg iter m) (hb : blkC X.N X.env.scope scope own = true) (hts : ∀ i ∈ ts, i ∈ own.map (·.2))
    (hG : ∀ (s : Shared) (H : Hp) (C : Addr) (cl : List (Str × Addr)) (fp : List Addr), MG (X.blk s H scope (compEnvC scope cl C X.env) fp) g tg gt put ts)
    (ht : ∀ (s : Shared) (H : Hp) (C : Addr) (cl : List (Str × Addr)) (fp : List Addr) (a : α), MTs (X.blk s H scope (compEnvC scope cl C X.env) fp) g B (put a (wipeS S (own.map (·.2)))) ifs (t a))
    (he : ∀ (s : Shared) (H : Hp) (C : Addr) (cl : List (Str × Addr)) (fp : List Addr) (a : α), ME (X.blk s H scope (compEnvC scope cl C X.env) fp) g B (put a (wipeS S (own.map (·.2)))) elt (f a) (KI g))
    (hr : ∀ bs, MB X g B J (S.set i (some (.fr (rl g bs)))) rest (fr bs) K) (hy : X.N[i]? = some x := by rfl) (hc : X.calm = true := by rfl) (hs : ∀ x, foldedSetIterable iter X.env x = pure x := by intro _; rfl) :
    MB X g B J S (.Assign [.Name x p] (.ListComp elt [⟨tg, iter, ifs, 0⟩] scope pos) pos' :: rest) (m >>= fun as => lcF t f as >>= fr) K := by
  refine ⟨fun r q => ?_⟩
  obtain ⟨as, q1, q⟩ := bind_some q
  obtain ⟨bs, q2, q3⟩ := bind_some q
  refine pss_imp (pss_cons (ps_setLc (i := i) (g := gt) (tt := rdTs g B (fun a => put a (wipeS S (own.map (·.2)))) t) (te := rdEs g B (fun a => put a (wipeS S (own.map (·.2)))) f) hc hN hy hx hsw (hi.run as q1) (blkOk_by hb) (fun s H C cl fp => (hG s H C cl fp).pg)
    (fun s H C cl fp => ⟨fun pins st σ H Q I ⟨a, b, I2, e1, h, k⟩ => ((ht _ _ C cl fp a).run b e1).run pins st σ H Q I ⟨I2, h, k⟩⟩)
    (fun s H C cl fp => ⟨fun pins st σ H Q I ⟨a, b, I2, e1, h, k⟩ => ((he _ _ C cl fp a).run b e1).run pins st σ H Q I ⟨I2, h, k⟩⟩) hs) ((hr bs).run r q3)) fun D σ H ⟨I, ok, kk⟩ => ?_
  exact lc_use (Q := fun x H1 => gName i x σ H1 (fun σ H => ∃ I, Ok g B J (List.set S i (some (RK.fr (rl g bs)))) σ I H ∧ K r D)) hts (hG X.s_0 X.H_0 0 [] []).ok q2 ⟨I, ok.h, fun v I' H' x hv => ⟨I', ok.put x rfl hv, kk⟩⟩
theorem mb_setLc (i : Nat) {x : Str} {scope : Scope} {own : List (Str × Nat)} {m : Option (List α)} {gt : TG} {put : α → SL → SL} {ts : List Nat} {f : α → Option β} {fr : List β → Option o} (hN : X.N.Nodup) (hx : X.env.scope.names.lookup x = some .local) (hsw : swapsWith (.ListComp elt [⟨tg, iter, [], 0⟩] scope pos) (some (.Name x p)) pos'.line X.env = pure true) (hi : MI X g B S tg iter m) (hb : blkC X.N X.env.scope scope own = true) (hts : ∀ i ∈ ts, i ∈ own.map (·.2))
    (hG : ∀ (s : Shared) (H : Hp) (C : Addr) (cl : List (Str × Addr)) (fp : List Addr), MG (X.blk s H scope (compEnvC scope cl C X.env) fp) g tg gt put ts)
    (he : ∀ (s : Shared) (H : Hp) (C : Addr) (cl : List (Str × Addr)) (fp : List Addr) (a : α), ME (X.blk s H scope (compEnvC scope cl C X.env) fp) g B (put a (wipeS S (own.map (·.2)))) elt (f a) (KI g))
    (hr : ∀ bs, MB X g B J (S.set i (some (.fr (rl g bs)))) rest (fr bs) K) (hy : X.N[i]? = some x := by rfl) (hc : X.calm = true := by rfl) (hs : ∀ x, foldedSetIterable iter X.env x = pure x := by intro _; rfl) :
    MB X g B J S (.Assign [.Name x p] (.ListComp elt [⟨tg, iter, [], 0⟩] scope pos) pos' :: rest) (m >>= fun as => lcM f as >>= fr) K :=
  (mb_setLcF (t := fun _ => some true) i hN hx hsw hi hb hts hG (fun _ _ _ _ _ _ => mts_nil) he hr hy hc hs).eq (by cases m with
    | none => rfl
    | some as => exact congrArg (fun z => z >>= fr) (lcF_all f as))
end
end T
set_option Elab.async false
set_option linter.all false
set_option maxRecDepth 100000
namespace T
variable [TabsC]
open PySem PySem.Spec PyProof.Rows L2

/-- behind a loop that may leave, within a turn of another -/
def Ctl.up {β β2 γ ρ : Type} (f : β → Option (Ctl β2 γ ρ)) : Ctl β Empty ρ → Option (Ctl β2 γ ρ)
  | .nx b => f b
  | .rt r => some (.rt r)
  | .ct c => c.elim
  | .bk c => c.elim
theorem loopN_pure {α γ : Type} (f : γ → α → γ) : ∀ (as : List α) (s : γ), loopN (fun s a => some (f s a)) as s = some (as.foldl f s)
  | [], s => rfl
  | a :: as, s => loopN_pure f as (f s a)
theorem lcM_pure {α β : Type} (f : α → β) : ∀ as : List α, lcM (fun a => some (f a)) as = some (as.map f)
  | [] => rfl
  | a :: as => by
    show (lcM (fun a => some (f a)) as >>= fun bs => some (f a :: bs)) = _
    rw [lcM_pure f as]; rfl
/-- lo, lo + c, .. -/
def rng3 (lo c : Int) (n : Nat) : List Int := (List.range n).map fun (i : Nat) => lo + (i : Int) * c
def rng3Ok (i j c : Int) : Bool := decide (0 < c ∧ c < 1073741824) && Builtin.Range.small i j c && decide ((Builtin.Range.rangeSize i j c).toNat ≤ sizeLine)
@[irreducible] def rng3O (i j c : Int) : Option (List Int) := if rng3Ok i j c = true then some (rng3 i c (Builtin.Range.rangeSize i j c).toNat) else none
/-! isinstance: known by the kind of thing -/
/-- things of one built-in type -/
class IsT (α : Type) [Py α] where
  ty : String
  ok : ∀ {g : Gb} {a : α} {I : Hp} {v : V}, (Py.r g a).p I v → TyX g.K I v (.type ty)
theorem tyx_sq {K : PySem.W.Frag} {H : Hp} {l : Addr} {vs : List V} (h : SqL K H l vs) : TyX K H (.ref l) (.type "list") := by
  rcases h with (h | ⟨o, h⟩) | ⟨o, its, n, h1, h2, _⟩
  · exact .base (.lst h)
  · exact .base (.frz h)
  · exact .kList h1 h2
theorem tyx_tq {K : PySem.W.Frag} {H : Hp} {l : Addr} {vs : List V} (h : SqT K H l vs) : TyX K H (.ref l) (.type "tuple") := by
  rcases h with (h | ⟨o, h⟩) | ⟨o, its, n, h1, h2, _⟩
  · exact .base (.tup h)
  · exact .fTuple h
  · exact .kTuple h1 h2
instance : IsT Int := ⟨"int", fun h => by cases h; exact .base (.int _)⟩
instance : IsT Bool := ⟨"bool", fun h => by cases h; exact .base (.bl _)⟩
instance : IsT Str := ⟨"str", fun h => by cases h; exact .base (.str _)⟩
section
variable {α β γ δ : Type} [Py α] [Py β] [Py γ] [Py δ]
instance : IsT (T2 α β) := ⟨"tuple", fun h => by obtain ⟨_, _, _, rfl, h, _⟩ := h; exact tyx_tq h⟩
instance : IsT (T3 α β γ) := ⟨"tuple", fun h => by obtain ⟨_, _, _, _, rfl, h, _⟩ := h; exact tyx_tq h⟩
instance : IsT (T4 α β γ δ) := ⟨"tuple", fun h => by obtain ⟨_, _, _, _, _, rfl, h, _⟩ := h; exact tyx_tq h⟩
theorem tyx_mono {K : PySem.W.Frag} {H H' : Hp} {v : V} {t : Value} (s : Same H H') (h : TyX K H v t) : TyX K H' v t := by
  cases h with
  | base h =>
    cases h with
    | non => exact .base .non
    | bl x => exact .base (.bl x)
    | int x => exact .base (.int x)
    | str x => exact .base (.str x)
    | flt x => exact .base (.flt x)
    | lst e => exact .base (.lst (s _ _ e))
    | frz e => exact .base (.frz (s _ _ e))
    | tup e => exact .base (.tup (s _ _ e))
    | dK e => exact .base (.dK (s _ _ e))
    | dT e => exact .base (.dT (s _ _ e))
    | ins e cl ha hn htk hm => exact .base (.ins (s _ _ e) cl ha hn htk hm)
  | byt b => exact .byt b
  | set e => exact .set (s _ _ e)
  | kList e c => exact .kList e c
  | kTuple e c => exact .kTuple e c
  | kDict e c => exact .kDict e c
  | fTuple e => exact .fTuple (s _ _ e)
  | fDict e => exact .fDict (s _ _ e)
end
/-- a thing of kind k is of the type t -/
def TR {α' : Type} (g : Gb) (k : α' → RK) (t : Value) : Prop := ∀ a H0 v I H, Same I H → RK.holds g (k a) H0 v I H → TyX g.K H v t
section
variable {X : Cx} {g : Gb} {B : Bs} {J : Hp} {S : SL} {e e1 e2 e3 tg : Expr} {es : List Expr} {pos pos' p p2 : Pos} {o α' β' γ' ρ : Type} {K : KT o} {rest body : List Stmt} {α β : Type} [Py α] [Py β] {m : Option (List α)} {k : List α → RK}
theorem me_all {m : Option (List Bool)} {k : List Bool → RK} (hm : X.mg "all" = none) (h : ME X g B S e m k) (r : LR g k := by first | exact lr_im | exact lr_fr | exact lr_rd) (hg : Gl X "all" := by rfl) (hK : X.K = g.K := by rfl) (hc : X.calm = true := by rfl) (he : starEach [e] X.env = (false, eval e X.env) :: starEach [] X.env := by rfl) (hpl : (backTo pos (starEach [] X.env)).any (·.1) = false := by rfl) :
    ME X g B S (.Call (.Name "all" p) [e] [] pos) (m >>= fun xs => some (xs.all id)) (KI g) := by
  refine ⟨fun n q => ?_⟩
  obtain ⟨xs, q1, q2⟩ := bind_some q
  cases q2
  refine pe_imp (pe_callB (cr_all hc) hg hm (by decide +kernel) (pa_cons (h.run xs q1) pa_nil he) (he := he) (hpl := hpl)) fun σ H Q ⟨I, hh, kk⟩ => ⟨I, hh, fun v I' H' x hv => ?_⟩
  obtain ⟨l, vs, rfl, h1, h2⟩ := r xs _ _ _ _ x.s hv
  have e1 := vals_bls h2.2
  subst e1
  exact ⟨l, xs, rfl, by rw [hK]; exact h1, kk _ I' H' x rfl⟩
end
end T
set_option Elab.async false
set_option linter.all false
set_option maxRecDepth 100000
namespace T
variable [TabsC]
open PySem PySem.Spec PyProof.Rows L2
/-! the same rules where nothing can fail -/
section
variable {X : Cx} {g : Gb} {B : Bs} {J : Hp} {S : SL} {e e1 e2 e3 tg elt iter : Expr} {es ifs : List Expr} {pos pos' p p2 p3 apos cpos : Pos} {o α' β' γ' ρ : Type} {K : KT o} {rest body : List Stmt} {α β γ δ : Type} [Py α] [Py β] [Py γ] [Py δ]
theorem me_ifP {a' : Type} {c : Bool} {a b : a'} {k : a' → RK} (hc : MT X g B S e (some c)) (h1 : ME X g B S e1 (some a) k) (h2 : ME X g B S e2 (some b) k) (hb : ∀ c, (k c).isB = false := by intro _; rfl) : ME X g B S (.IfExp e e1 e2 pos) (some (if c = true then a else b)) k :=
  (me_if hc h1 h2 hb).eq (by cases c <;> rfl)
theorem mb_ifP {c : Bool} {a1 a2 : β'} {b1 b2 : List Stmt} {S' : β' → SL} {f : β' → Option o} (hc : MT X g B S e (some c)) (h1 : MB X g B J S b1 (some a1) (Kn g B J S')) (h2 : MB X g B J S b2 (some a2) (Kn g B J S')) (hb : ∀ b, MB X g B J (S' b) rest (f b) K) :
    MB X g B J S (.If e b1 b2 pos :: rest) (f (if c = true then a1 else a2)) K :=
  (mb_if hc h1 h2 hb).eq (by cases c <;> rfl)
theorem mb_forP {m : Option (List α)} {put : α → SL → SL} {S' : β' → SL} {s0 : β'} {fb : β' → α → β'} {f : β' → Option o} (hp : PassesOwn (model X.prog X.w) X.A X.env X.xe) (hi : MI X g B S tg e m) {gt : TG} {ts : List Nat} (hG : MG X g tg gt put ts) (w : Wk S (S' s0))
    (hb : ∀ J s a, MB X g B J (put a (S' s)) body (some (fb s a)) (Kn g B J S')) (hr : ∀ s, MB X g B J (S' s) rest (f s) K) (hc : X.calm = true := by rfl) (hs : ∀ x, foldedSetIterable e X.env x = pure x := by intro _; rfl) :
    MB X g B J S (.For tg e body [] pos :: rest) (m >>= fun as => f (as.foldl fb s0)) K :=
  (mb_for hp hi hG w hb hr hc hs).eq (by
    cases m with
    | none => rfl
    | some as =>
      show (loopN (fun s a => some (fb s a)) as s0 >>= f) = f (as.foldl fb s0)
      rw [loopN_pure]; rfl)
theorem me_lcP {scope : Scope} {own : List (Str × Nat)} {m : Option (List α)} {gt : TG} {put : α → SL → SL} {ts : List Nat} {f : α → β} (hN : X.N.Nodup) (hi : MI X g B S tg iter m) (hb : blkC X.N X.env.scope scope own = true) (hts : ∀ i ∈ ts, i ∈ own.map (·.2))
    (hG : ∀ (s : Shared) (H : Hp) (C : Addr) (cl : List (Str × Addr)) (fp : List Addr), MG (X.blk s H scope (compEnvC scope cl C X.env) fp) g tg gt put ts)
    (he : ∀ (s : Shared) (H : Hp) (C : Addr) (cl : List (Str × Addr)) (fp : List Addr) (a : α), ME (X.blk s H scope (compEnvC scope cl C X.env) fp) g B (put a (wipeS S (own.map (·.2)))) elt (some (f a)) (KI g)) (hc : X.calm = true := by rfl) (hs : ∀ x, foldedSetIterable iter X.env x = pure x := by intro _; rfl) :
    ME X g B S (.ListComp elt [⟨tg, iter, [], 0⟩] scope pos) (m >>= fun as => some (as.map f)) (fun bs => .fr (rl g bs)) :=
  (me_lc hN hi hb hts hG he hc hs).eq (by cases m with
    | none => rfl
    | some as => exact lcM_pure f as)
theorem mb_setLcP (i : Nat) {x : Str} {scope : Scope} {own : List (Str × Nat)} {m : Option (List α)} {gt : TG} {put : α → SL → SL} {ts : List Nat} {f : α → β} {fr : List β → Option o} (hN : X.N.Nodup) (hx : X.env.scope.names.lookup x = some .local) (hsw : swapsWith (.ListComp elt [⟨tg, iter, [], 0⟩] scope pos) (some (.Name x p)) pos'.line X.env = pure true) (hi : MI X g B S tg iter m) (hb : blkC X.N X.env.scope scope own = true) (hts : ∀ i ∈ ts, i ∈ own.map (·.2))
    (hG : ∀ (s : Shared) (H : Hp) (C : Addr) (cl : List (Str × Addr)) (fp : List Addr), MG (X.blk s H scope (compEnvC scope cl C X.env) fp) g tg gt put ts)
    (he : ∀ (s : Shared) (H : Hp) (C : Addr) (cl : List (Str × Addr)) (fp : List Addr) (a : α), ME (X.blk s H scope (compEnvC scope cl C X.env) fp) g B (put a (wipeS S (own.map (·.2)))) elt (some (f a)) (KI g))
    (hr : ∀ bs, MB X g B J (S.set i (some (.fr (rl g bs)))) rest (fr bs) K) (hy : X.N[i]? = some x := by rfl) (hc : X.calm = true := by rfl) (hs : ∀ x, foldedSetIterable iter X.env x = pure x := by intro _; rfl) :
    MB X g B J S (.Assign [.Name x p] (.ListComp elt [⟨tg, iter, [], 0⟩] scope pos) pos' :: rest) (m >>= fun as => fr (as.map f)) K :=
  (mb_setLc i hN hx hsw hi hb hts hG he hr hy hc hs).eq (by cases m with
    | none => rfl
    | some as =>
      show (lcM (fun a => some (f a)) as >>= fr) = _
      rw [lcM_pure]; rfl)
end
end T
set_option Elab.async false
set_option linter.all false
set_option maxRecDepth 100000
namespace T
variable [TabsC]
open PySem PySem.Spec PyProof.Rows L2
/-- behind a loop that no value leaves -/
def Ctl.upN {β β2 : Type} (f : β → Option β2) : Ctl β Empty Empty → Option β2
  | .nx b => f b
  | .rt r => r.elim
  | .ct c => c.elim
  | .bk c => c.elim
theorem bindP {α β : Type} (a : α) (f : α → Option β) : ((some a : Option α) >>= f) = f a := rfl
section
variable {X : Cx} {g : Gb} {B : Bs} {J : Hp} {S : SL} {e tg c : Expr} {pos : Pos} {o α β β2 γ γ2 ρ : Type} {K : KT o} {rest body : List Stmt} [Py α]
/-- loops that may be left: at a def's level; within a turn or a part that may leave; where only their own turns are left -/
theorem mb_forT {m : Option (List α)} {put : α → SL → SL} {S' : γ → SL} {s0 : γ} {k : ρ → RK} {fb : γ → α → Option (Ctl γ γ ρ)} {f : γ → Option ρ} (hi : MI X g B S tg e m) {gt : TG} {ts : List Nat} (hG : MG X g tg gt put ts) (w : Wk S (S' s0))
    (hb : ∀ J s a, MB X g B J (put a (S' s)) body (fb s a) (Kc g B J S' S' k)) (hr : ∀ s, MB X g B J (S' s) rest (f s) (Kt g B k)) (hp : PassesOwn (model X.prog X.w) X.A X.env X.xe := by exact PassesOwn.never) (hc : X.calm = true := by rfl) (hs : ∀ x, foldedSetIterable e X.env x = pure x := by intro _; rfl) :
    MB X g B J S (.For tg e body [] pos :: rest) (m >>= fun as => loopC fb as s0 >>= Ctl.seqT f) (Kt g B k) :=
  mb_forC kr_t hp hi hG w hb hr (fun _ => rfl) (fun _ => rfl) hc hs
theorem mb_whileT (N : Nat) {S' : γ → SL} {s0 : γ} {k : ρ → RK} {cm : γ → Option Bool} {fb : γ → Option (Ctl γ γ ρ)} {f : γ → Option ρ} (w : Wk S (S' s0)) (hc : ∀ s, MT X g B (S' s) c (cm s)) (hb : ∀ s, MB X g B J (S' s) body (fb s) (Kc g B J S' S' k)) (hr : ∀ s, MB X g B J (S' s) rest (f s) (Kt g B k))
    (hp : PassesOwn (model X.prog X.w) X.A X.env X.xe := by exact PassesOwn.never) : MB X g B J S (.While c body [] pos :: rest) (whileC cm fb N s0 >>= Ctl.seqT f) (Kt g B k) :=
  mb_while N kr_t hp w hc hb hr (fun _ => rfl) (fun _ => rfl)
end
end T
set_option Elab.async false
set_option linter.all false
set_option maxRecDepth 100000
namespace T
variable [TabsC]
open PySem PySem.Spec PyProof.Rows L2
/-! what is known ahead of a step is put in -/
section
variable {X : Cx} {g : Gb} {B : Bs} {J : Hp} {S : SL} {e tg : Expr} {oe : Option Expr} {es ifs : List Expr} {sts : List Stmt} {α β γ δ ε : Type}
theorem ME.p1 {a : α} {f : α → Option δ} {r : Option δ} {k : δ → RK} (h : ME X g B S e (some a >>= f) k) (q : f a = r := by exact rfl) : ME X g B S e r k := q ▸ h
theorem ME.p2 {m : Option α} {b : β} {f : α → β → Option δ} {r : Option δ} {k : δ → RK} (h : ME X g B S e (m >>= fun a => some b >>= f a) k) (q : (m >>= fun a => f a b) = r := by exact rfl) : ME X g B S e r k := q ▸ h
theorem ME.p3 {m : Option α} {m2 : α → Option β} {c : γ} {f : α → β → γ → Option δ} {r : Option δ} {k : δ → RK} (h : ME X g B S e (m >>= fun a => m2 a >>= fun b => some c >>= f a b) k) (q : (m >>= fun a => m2 a >>= fun b => f a b c) = r := by exact rfl) : ME X g B S e r k := q ▸ h
theorem MT.p1 {a : α} {f : α → Option Bool} {r : Option Bool} (h : MT X g B S e (some a >>= f)) (q : f a = r := by exact rfl) : MT X g B S e r := q ▸ h
theorem MT.p2 {m : Option α} {b : β} {f : α → β → Option Bool} {r : Option Bool} (h : MT X g B S e (m >>= fun a => some b >>= f a)) (q : (m >>= fun a => f a b) = r := by exact rfl) : MT X g B S e r := q ▸ h
theorem MT.p3 {m : Option α} {m2 : α → Option β} {c : γ} {f : α → β → γ → Option Bool} {r : Option Bool} (h : MT X g B S e (m >>= fun a => m2 a >>= fun b => some c >>= f a b)) (q : (m >>= fun a => m2 a >>= fun b => f a b c) = r := by exact rfl) : MT X g B S e r := q ▸ h
theorem MC.p1 {a : α} {f : α → Option Bool} {r : Option Bool} (h : MC X g B S e (some a >>= f)) (q : f a = r := by exact rfl) : MC X g B S e r := q ▸ h
theorem MC.p2 {m : Option α} {b : β} {f : α → β → Option Bool} {r : Option Bool} (h : MC X g B S e (m >>= fun a => some b >>= f a)) (q : (m >>= fun a => f a b) = r := by exact rfl) : MC X g B S e r := q ▸ h
theorem MC.p3 {m : Option α} {m2 : α → Option β} {c : γ} {f : α → β → γ → Option Bool} {r : Option Bool} (h : MC X g B S e (m >>= fun a => m2 a >>= fun b => some c >>= f a b)) (q : (m >>= fun a => m2 a >>= fun b => f a b c) = r := by exact rfl) : MC X g B S e r := q ▸ h
theorem MW.p1 {a : α} {f : α → Option Bool} {r : Option Bool} (h : MW X g B S e (some a >>= f)) (q : f a = r := by exact rfl) : MW X g B S e r := q ▸ h
theorem MW.p2 {m : Option α} {b : β} {f : α → β → Option Bool} {r : Option Bool} (h : MW X g B S e (m >>= fun a => some b >>= f a)) (q : (m >>= fun a => f a b) = r := by exact rfl) : MW X g B S e r := q ▸ h
theorem MW.p3 {m : Option α} {m2 : α → Option β} {c : γ} {f : α → β → γ → Option Bool} {r : Option Bool} (h : MW X g B S e (m >>= fun a => m2 a >>= fun b => some c >>= f a b)) (q : (m >>= fun a => m2 a >>= fun b => f a b c) = r := by exact rfl) : MW X g B S e r := q ▸ h
theorem MTs.p1 {a : α} {f : α → Option Bool} {r : Option Bool} (h : MTs X g B S ifs (some a >>= f)) (q : f a = r := by exact rfl) : MTs X g B S ifs r := q ▸ h
theorem MTs.p2 {m : Option α} {b : β} {f : α → β → Option Bool} {r : Option Bool} (h : MTs X g B S ifs (m >>= fun a => some b >>= f a)) (q : (m >>= fun a => f a b) = r := by exact rfl) : MTs X g B S ifs r := q ▸ h
theorem MTs.p3 {m : Option α} {m2 : α → Option β} {c : γ} {f : α → β → γ → Option Bool} {r : Option Bool} (h : MTs X g B S ifs (m >>= fun a => m2 a >>= fun b => some c >>= f a b)) (q : (m >>= fun a => m2 a >>= fun b => f a b c) = r := by exact rfl) : MTs X g B S ifs r := q ▸ h
theorem MI.p1 [Py δ] {a : α} {f : α → Option (List δ)} {r : Option (List δ)} (h : MI X g B S tg e (some a >>= f)) (q : f a = r := by exact rfl) : MI X g B S tg e r := q ▸ h
theorem MI.p2 [Py δ] {m : Option α} {b : β} {f : α → β → Option (List δ)} {r : Option (List δ)} (h : MI X g B S tg e (m >>= fun a => some b >>= f a)) (q : (m >>= fun a => f a b) = r := by exact rfl) : MI X g B S tg e r := q ▸ h
theorem MI.p3 [Py δ] {m : Option α} {m2 : α → Option β} {c : γ} {f : α → β → γ → Option (List δ)} {r : Option (List δ)} (h : MI X g B S tg e (m >>= fun a => m2 a >>= fun b => some c >>= f a b)) (q : (m >>= fun a => m2 a >>= fun b => f a b c) = r := by exact rfl) : MI X g B S tg e r := q ▸ h
theorem MSt.p1 [Py δ] {a : α} {f : α → Option (List δ)} {r : Option (List δ)} (h : MSt X g B S e (some a >>= f)) (q : f a = r := by exact rfl) : MSt X g B S e r := q ▸ h
theorem MSt.p2 [Py δ] {m : Option α} {b : β} {f : α → β → Option (List δ)} {r : Option (List δ)} (h : MSt X g B S e (m >>= fun a => some b >>= f a)) (q : (m >>= fun a => f a b) = r := by exact rfl) : MSt X g B S e r := q ▸ h
theorem MSt.p3 [Py δ] {m : Option α} {m2 : α → Option β} {c : γ} {f : α → β → γ → Option (List δ)} {r : Option (List δ)} (h : MSt X g B S e (m >>= fun a => m2 a >>= fun b => some c >>= f a b)) (q : (m >>= fun a => m2 a >>= fun b => f a b c) = r := by exact rfl) : MSt X g B S e r := q ▸ h
theorem ML.p1 [Py δ] {a : α} {f : α → Option (List δ)} {r : Option (List δ)} (h : ML X g B S es (some a >>= f)) (q : f a = r := by exact rfl) : ML X g B S es r := q ▸ h
theorem ML.p2 [Py δ] {m : Option α} {b : β} {f : α → β → Option (List δ)} {r : Option (List δ)} (h : ML X g B S es (m >>= fun a => some b >>= f a)) (q : (m >>= fun a => f a b) = r := by exact rfl) : ML X g B S es r := q ▸ h
theorem ML.p3 [Py δ] {m : Option α} {m2 : α → Option β} {c : γ} {f : α → β → γ → Option (List δ)} {r : Option (List δ)} (h : ML X g B S es (m >>= fun a => m2 a >>= fun b => some c >>= f a b)) (q : (m >>= fun a => m2 a >>= fun b => f a b c) = r := by exact rfl) : ML X g B S es r := q ▸ h
theorem MO.p1 {a : α} {f : α → Option (Option Int)} {r : Option (Option Int)} (h : MO X g B S oe (some a >>= f)) (q : f a = r := by exact rfl) : MO X g B S oe r := q ▸ h
theorem MO.p2 {m : Option α} {b : β} {f : α → β → Option (Option Int)} {r : Option (Option Int)} (h : MO X g B S oe (m >>= fun a => some b >>= f a)) (q : (m >>= fun a => f a b) = r := by exact rfl) : MO X g B S oe r := q ▸ h
theorem MO.p3 {m : Option α} {m2 : α → Option β} {c : γ} {f : α → β → γ → Option (Option Int)} {r : Option (Option Int)} (h : MO X g B S oe (m >>= fun a => m2 a >>= fun b => some c >>= f a b)) (q : (m >>= fun a => m2 a >>= fun b => f a b c) = r := by exact rfl) : MO X g B S oe r := q ▸ h
theorem MB.p1 {a : α} {f : α → Option δ} {r : Option δ} {K : KT δ} (h : MB X g B J S sts (some a >>= f) K) (q : f a = r := by exact rfl) : MB X g B J S sts r K := q ▸ h
theorem MB.p2 {m : Option α} {b : β} {f : α → β → Option δ} {r : Option δ} {K : KT δ} (h : MB X g B J S sts (m >>= fun a => some b >>= f a) K) (q : (m >>= fun a => f a b) = r := by exact rfl) : MB X g B J S sts r K := q ▸ h
theorem MB.p3 {m : Option α} {m2 : α → Option β} {c : γ} {f : α → β → γ → Option δ} {r : Option δ} {K : KT δ} (h : MB X g B J S sts (m >>= fun a => m2 a >>= fun b => some c >>= f a b) K) (q : (m >>= fun a => m2 a >>= fun b => f a b c) = r := by exact rfl) : MB X g B J S sts r K := q ▸ h
theorem MA.p1 {ι : Type} {dvs : List V} {args : ι → List RK} {a : α} {f : α → Option δ} {r : Option δ} {M : ι → Option δ} (h : MA X g B S es dvs args (some a >>= f) M) (q : f a = r := by exact rfl) : MA X g B S es dvs args r M := q ▸ h
theorem ma_nl {o : Type} {M : Unit → Option o} {r : Option o} (q : M () = r := by exact rfl) : MA X g B S [] [] (fun _ : Unit => []) r M := q ▸ ma_nil
end
theorem paired_ints {g : Gb} {I : Hp} : ∀ ns : List Int, Paired (fun a v => (Py.r g a).p I v) ns (ns.map V.int)
  | [] => .nil
  | _ :: ns => .cons rfl (paired_ints ns)
/-- the heap without the tables -/
def noT (H : Hp) : Hp := fun b => if (TabsC.T.any fun p => decide (p.1 = b)) = true then none else H b
theorem noT_at {H : Hp} {p : Addr × Str} (hp : p ∈ TabsC.T) : noT H p.1 = none := by
  unfold noT
  rw [if_pos (List.any_eq_true.mpr ⟨p, hp, by simp⟩)]
theorem noT_same {H : Hp} : Same (noT H) H := fun b o e => by
  unfold noT at e
  split at e
  · cases e
  · exact e
/-- a law's own promise -/
def spL (K : PySem.W.Frag) : Sp := fun vs H Q _ => Tbs H ∧ ∃ (a : Addr) (ns : List Int), vs = [.ref a] ∧ SqL K H a (ns.map V.int) ∧ ns.length ≤ 63 ∧ ∀ H', Q (.bl true) H'
theorem fin_bw {P : Program} {w : World} {K : PySem.W.Frag} {mg : Str → Option Value} {base : Heap} {k : Nat} {f : Addr} {fd : FuncData} {ps : List Str} {M : List Int → Option Bool} (hM : ∀ ns : List Int, ns.length ≤ 63 → M ns = some true)
    (F : FnOk P w K mg base CX0 k f fd ps (spT (Gb.mk K mg) (fun p : List Int × Unit => [.bw (rl (Gb.mk K mg) p.1)]) (fun p => M p.1) (fun r => .im (Py.r (Gb.mk K mg) (r : Bool))))) : FnOk P w K mg base CX0 k f fd ps (spL K) :=
  F.imp fun vs H Q E ⟨tb, a, ns, e, hS, hl, q⟩ => by
    subst e
    exact ⟨noT H, (ns, ()), true, noT_same, ⟨tb, fun _ hp => noT_at hp⟩, .cons ⟨a, _, rfl, hS, Nat.le_trans hl (by decide), paired_ints ns⟩ .nil, hM ns hl, fun v I' H' _ hv => by cases hv; exact q H'⟩
end T
set_option Elab.async false
set_option linter.all false
set_option maxRecDepth 100000
namespace T
variable [TabsC]
open PySem PySem.Spec PyProof.Rows L2
/-! owned trees -/
def oI (r : PR) : OR := ⟨fun I _ v => r.p I v, fun s h => r.mono s h⟩
def oF (q : PL) : OR := ⟨fun I F v => ∃ l vs, v = .ref l ∧ F l = some (.lst vs) ∧ q.p I vs, fun s ⟨l, vs, e, h, q'⟩ => ⟨l, vs, e, h, q.mono s q'⟩⟩
/-- children side by side in F, none at the root -/
structure Kids (os : List OR) (I F : Hp) (vs : List V) (l : Addr) : Prop where
  len : os.length = vs.length
  ex : ∃ Ψ : Nat → Hp, (∀ (j : Nat) (o : OR) (v : V), os[j]? = some o → vs[j]? = some v → o.p I (Ψ j) v) ∧ (∀ j, Same (Ψ j) F) ∧ (∀ j, Ψ j l = none) ∧ (∀ i j a, Ψ i a ≠ none → Ψ j a ≠ none → i = j)
theorem Kids.mono {os : List OR} {I I' F : Hp} {vs : List V} {l : Addr} (s : Same I I') (h : Kids os I F vs l) : Kids os I' F vs l := by
  obtain ⟨h1, Ψ, a, b⟩ := h
  exact ⟨h1, Ψ, fun j o v e1 e2 => o.mono s (a j o v e1 e2), b⟩
def oC (W : List V → HO → Prop) (os : List OR) : OR := ⟨fun I F v => ∃ l ob vs, v = .ref l ∧ F l = some ob ∧ W vs ob ∧ Kids os I F vs l, fun s ⟨l, ob, vs, e, h, w, k⟩ => ⟨l, ob, vs, e, h, w, k.mono s⟩⟩
def wL : List V → HO → Prop := fun vs ob => ob = .lst vs ∧ vs.length ≤ sizeLine
def wT : List V → HO → Prop := fun vs ob => ob = .tup vs
def wI (g : Gb) (c : Str) (names : List Str) : List V → HO → Prop := fun vs ob => ∃ C dx, g.mg c = some (.ref C) ∧ ob = .ins C dx (names.zip vs) ∧ names.length = vs.length
/-- an instance that stays -/
def rIns (g : Gb) (c : Str) (names : List Str) (rs : List PR) : PR where
  p := fun I v => ∃ l C dx vs, v = .ref l ∧ g.mg c = some (.ref C) ∧ I l = some (.ins C dx (names.zip vs)) ∧ names.length = vs.length ∧ Paired (fun (r : PR) v => r.p I v) rs vs
  mono := fun s ⟨l, C, dx, vs, e, h1, h2, h3, h4⟩ => ⟨l, C, dx, vs, e, h1, s _ _ h2, h3, L2.Paired.mapP h4 fun r _ q => r.mono s q⟩
/-! let go -/
theorem frz_I {r : PR} : Frz (oI r) r := fun I F v hd h => r.mono (un_l hd) h
theorem frz_F {g : Gb} {α : Type} [Py α] {as : List α} : Frz (oF (rl g as)) (Py.r g as) := fun I F v hd ⟨l, vs, e, h1, h2⟩ => by subst e; exact frz_list hd h1 h2
theorem un_same {I F Ψ : Hp} (hd : ∀ a, F a ≠ none → I a = none) (s : Same Ψ F) : Same (Un I Ψ) (Un I F) := fun a o e => by
  rcases un_some e with e | ⟨e1, e2⟩
  · exact un_r (s a o e)
  · cases q : F a with
    | none => rw [un_none q]; exact e2
    | some u => have := hd a (ne_of_some q); rw [this] at e2; cases e2
theorem kids_frz {g : Gb} {os : List OR} {rs : List PR} {I F : Hp} {vs : List V} {l : Addr} (hd : ∀ a, F a ≠ none → I a = none) (z : Paired Frz os rs) (h : Kids os I F vs l) : Paired (fun (r : PR) v => r.p (Un I F) v) rs vs := by
  obtain ⟨hl, Ψ, h1, h2, _, _⟩ := h
  have key : ∀ (os : List OR) (rs : List PR) (vs : List V) (Ψ : Nat → Hp), Paired Frz os rs → os.length = vs.length → (∀ (j : Nat) (o : OR) (v : V), os[j]? = some o → vs[j]? = some v → o.p I (Ψ j) v) → (∀ j, Same (Ψ j) F) → Paired (fun (r : PR) v => r.p (Un I F) v) rs vs := by
    intro os rs vs Ψ z
    induction z generalizing vs Ψ with
    | nil =>
      intro hl _ _
      cases vs with
      | nil => exact .nil
      | cons _ _ => cases hl
    | cons zf _ ih =>
      intro hl h1 h2
      cases vs with
      | nil => cases hl
      | cons v vs =>
        refine .cons ?_ (ih vs (fun j => Ψ (j + 1)) (by simpa using hl) (fun j o v e1 e2 => h1 (j + 1) o v (by simpa using e1) (by simpa using e2)) fun j => h2 (j + 1))
        have hp := h1 0 _ v rfl rfl
        have hd0 : ∀ a, Ψ 0 a ≠ none → I a = none := fun a ha => hd a (same_ne (h2 0) ha)
        exact PR.mono _ (un_same hd (h2 0)) (zf I (Ψ 0) v hd0 hp)
  exact key os rs vs Ψ z hl h1 h2
theorem frz_C {g : Gb} {c : Str} {names : List Str} {os : List OR} {rs : List PR} (z : Paired Frz os rs) : Frz (oC (wI g c names) os) (rIns g c names rs) := fun I F v hd ⟨l, ob, vs, e, h, ⟨C, dx, h1, h2, h3⟩, k⟩ => by
  subst e h2
  exact ⟨l, C, dx, vs, rfl, h1, un_r h, h3, kids_frz (g := g) hd z k⟩
section
variable {g : Gb} {α β γ δ : Type} [Py α] [Py β] [Py γ] [Py δ] {o0 o1 o2 o3 : OR}
theorem frz_T2 {t : T2 α β} (z0 : Frz o0 (Py.r g t.x0)) (z1 : Frz o1 (Py.r g t.x1)) : Frz (oC wT [o0, o1]) (Py.r g t) := fun I F v hd ⟨l, ob, vs, e, h, h2, kd⟩ => by
  subst e h2
  have hp := kids_frz (g := g) hd (.cons z0 (.cons z1 .nil)) kd
  cases hp with
  | cons p0 hp =>
    cases hp with
    | cons p1 hp =>
      cases hp
      exact ⟨l, _, _, rfl, SqT.of (un_r h), p0, p1⟩
end
/-- a kind as an owned one -/
def RK.orOf : RK → OR
  | .im p => oI p
  | .fr q => oF q
  | .ow o => o
  | .bw q => oF q
  | .rd q => oF q
theorem RK.fragO {g : Gb} {k : RK} {H : Hp} {v : V} {I' H' : Hp} (hk : k.slotty = true) (h : RK.holds g k H v I' H') : ∃ F : Hp, (∀ a, F a ≠ none → H a = none ∧ I' a = none) ∧ Same F H' ∧ k.orOf.p I' F v := by
  obtain ⟨F, f1, f2, f3⟩ := RK.frag hk h
  refine ⟨F, f1, f2, ?_⟩
  have f4 := f3 H
  cases k with
  | im p => exact f4
  | fr q => exact f4
  | ow o => exact f4
  | bw q => cases hk
  | rd q => cases hk
/-! a part of an owned tree -/
def Rp (F F1 F1' : Hp) : Hp := fun a => match F1' a with
  | some o => some o
  | none => match F1 a with
    | some _ => none
    | none => F a
theorem rp_new {F F1 F1' : Hp} {a : Addr} {o : HO} (h : F1' a = some o) : Rp F F1 F1' a = some o := by unfold Rp; rw [h]
theorem rp_gone {F F1 F1' : Hp} {a : Addr} (h : F1' a = none) (h2 : F1 a ≠ none) : Rp F F1 F1' a = none := by
  unfold Rp
  rw [h]
  cases q : F1 a with
  | none => exact absurd q h2
  | some o => rfl
theorem rp_old {F F1 F1' : Hp} {a : Addr} (h : F1' a = none) (h2 : F1 a = none) : Rp F F1 F1' a = F a := by unfold Rp; rw [h, h2]
theorem rp_self {F F' : Hp} : Rp F F F' = F' := by
  funext a
  cases q : F' a with
  | some o => exact rp_new q
  | none =>
    cases r : F a with
    | none => rw [rp_old q r, r]
    | some o => exact rp_gone q (ne_of_some r)
theorem rp_ne {F F1 F1' : Hp} {a : Addr} (h : Rp F F1 F1' a ≠ none) : F1' a ≠ none ∨ F a ≠ none := by
  cases q : F1' a with
  | some o => exact .inl (by simp)
  | none =>
    cases r : F1 a with
    | none => rw [rp_old q r] at h; exact .inr h
    | some o => rw [rp_gone q (ne_of_some r)] at h; exact absurd rfl h
/-- v1 is the part of v that o1 tells; mk says what the whole is with another part -/
def FocAt (o1 : OR) (mk : OR → OR) (I F : Hp) (v v1 : V) : Prop := ∃ F1, Same F1 F ∧ o1.p I F1 v1 ∧ ∀ (o' : OR) (I' F1' : Hp), Same I I' → (∀ a, F1' a ≠ none → F1 a ≠ none ∨ F a = none) → o'.p I' F1' v1 → (mk o').p I' (Rp F F1 F1') v
theorem FocAt.mono {o1 : OR} {mk : OR → OR} {I I' F : Hp} {v v1 : V} (s : Same I I') (h : FocAt o1 mk I F v v1) : FocAt o1 mk I' F v v1 := by
  obtain ⟨F1, h1, h2, h3⟩ := h
  exact ⟨F1, h1, o1.mono s h2, fun o' I2 F1' s2 => h3 o' I2 F1' (s.trans s2)⟩
theorem foc_self {o : OR} {I F : Hp} {v : V} (h : o.p I F v) : FocAt o (fun o => o) I F v v := ⟨F, Same.refl _, h, fun o' I' F1' _ _ h' => by rw [rp_self]; exact h'⟩
theorem set_get {α : Type} {xs : List α} {j i : Nat} {x y : α} (h : (xs.set j x)[i]? = some y) : (i = j ∧ y = x) ∨ (i ≠ j ∧ xs[i]? = some y) := by
  rcases set_some h with ⟨a, b, _⟩ | ⟨a, b⟩
  · exact .inl ⟨a.symm, b.symm⟩
  · exact .inr ⟨fun z => a z.symm, b⟩
theorem foc_kid {W : List V → HO → Prop} {os : List OR} {mk : OR → OR} {I F : Hp} {v v1 : V} {j : Nat} {oj : OR} (hj : os[j]? = some oj) (h : FocAt (oC W os) mk I F v v1) : ∃ l ob vs uj, v1 = .ref l ∧ F l = some ob ∧ W vs ob ∧ os.length = vs.length ∧ vs[j]? = some uj ∧ FocAt oj (fun o' => mk (oC W (os.set j o'))) I F v uj := by
  obtain ⟨F1, s1, ⟨l, ob, vs, e, hl, w, hlen, Ψ, k1, k2, k3, k4⟩, h3⟩ := h
  have hjl : j < vs.length := by rw [← hlen]; exact (List.getElem?_eq_some_iff.mp hj).1
  have hu : vs[j]? = some vs[j] := List.getElem?_eq_getElem hjl
  refine ⟨l, ob, vs, vs[j], e, s1 _ _ hl, w, hlen, hu, Ψ j, (k2 j).trans s1, k1 j oj _ hj hu, fun o' I' F2 sI nF ho => ?_⟩
  have F2l : F2 l = none := by
    cases q : F2 l with
    | none => rfl
    | some u =>
      rcases nF l (ne_of_some q) with z | z
      · exact absurd (k3 j) z
      · rw [s1 _ _ hl] at z; cases z
  have apart : ∀ i a, i ≠ j → Ψ i a ≠ none → F2 a = none := fun i a hi ha => by
    cases q : F2 a with
    | none => rfl
    | some u =>
      rcases nF a (ne_of_some q) with z | z
      · exact absurd (k4 i j a ha z) hi
      · exact absurd z (same_ne ((k2 i).trans s1) ha)
  have hp : (oC W (os.set j o')).p I' (Rp F1 (Ψ j) F2) v1 := by
    refine ⟨l, ob, vs, e, ?_, w, ?_, putF Ψ j F2, fun i o u e1 e2 => ?_, fun i a o e => ?_, fun i => ?_, fun i m a e1 e2 => ?_⟩
    · rw [rp_old F2l (k3 j)]; exact hl
    · rw [List.length_set]; exact hlen
    · rcases set_get e1 with ⟨a, b⟩ | ⟨a, b⟩
      · subst a b
        rw [hu] at e2
        cases e2
        rw [putF_same]; exact ho
      · rw [putF_ne a]; exact o.mono sI (k1 i o u b e2)
    · by_cases hi : i = j
      · rw [hi, putF_same] at e
        exact rp_new e
      · rw [putF_ne hi] at e
        have hn := ne_of_some e
        have hj0 : Ψ j a = none := by
          cases q : Ψ j a with
          | none => rfl
          | some u => exact absurd (k4 i j a hn (ne_of_some q)) hi
        rw [rp_old (apart i a hi hn) hj0]
        exact k2 i a o e
    · by_cases hi : i = j
      · rw [hi, putF_same]; exact F2l
      · rw [putF_ne hi]; exact k3 i
    · by_cases hi : i = j
      · by_cases hm : m = j
        · rw [hi, hm]
        · rw [hi, putF_same] at e1
          rw [putF_ne hm] at e2
          exact absurd (apart m a hm e2) e1
      · by_cases hm : m = j
        · rw [hm, putF_same] at e2
          rw [putF_ne hi] at e1
          exact absurd (apart i a hi e1) e2
        · rw [putF_ne hi] at e1
          rw [putF_ne hm] at e2
          exact k4 i m a e1 e2
  have h4 := h3 (oC W (os.set j o')) I' (Rp F1 (Ψ j) F2) sI (fun a ha => by
    rcases rp_ne ha with z | z
    · rcases nF a z with y | y
      · exact .inl (same_ne (k2 j) y)
      · exact .inr y
    · exact .inl z) hp
  have e5 : Rp F F1 (Rp F1 (Ψ j) F2) = Rp F (Ψ j) F2 := by
    funext a
    cases q : F2 a with
    | some o => rw [rp_new (rp_new q), rp_new q]
    | none =>
      cases r : Ψ j a with
      | some o =>
        rw [rp_gone (F := F) q (ne_of_some r), rp_gone (rp_gone q (ne_of_some r)) (same_ne (k2 j) (ne_of_some r))]
      | none =>
        rw [rp_old (F := F) q r]
        cases t : F1 a with
        | some o => rw [rp_new (by rw [rp_old q r]; exact t), s1 _ _ t]
        | none => rw [rp_old (by rw [rp_old q r]; exact t) t]
  rw [e5] at h4
  exact h4
end T
set_option Elab.async false
set_option linter.all false
set_option maxRecDepth 100000
namespace T
variable [TabsC]
open PySem PySem.Spec PyProof.Rows L2
/-! writing into an owned tree -/
def NewF (F : Hp) (l : Addr) (ob : HO) (F' : Hp) : Hp := fun a => if a = l then some ob else match F' a with
  | some o => some o
  | none => F a
theorem newF_root {F F' : Hp} {l : Addr} {ob : HO} : NewF F l ob F' l = some ob := by unfold NewF; rw [if_pos rfl]
theorem newF_new {F F' : Hp} {l a : Addr} {ob o : HO} (h : a ≠ l) (e : F' a = some o) : NewF F l ob F' a = some o := by unfold NewF; rw [if_neg h, e]
theorem newF_old {F F' : Hp} {l a : Addr} {ob : HO} (h : a ≠ l) (e : F' a = none) : NewF F l ob F' a = F a := by unfold NewF; rw [if_neg h, e]
theorem newF_ne {F F' : Hp} {l a : Addr} {ob : HO} (h : NewF F l ob F' a ≠ none) : a = l ∨ F' a ≠ none ∨ F a ≠ none := by
  by_cases e : a = l
  · exact .inl e
  · cases q : F' a with
    | some o => exact .inr (.inl (by simp))
    | none => rw [newF_old e q] at h; exact .inr (.inr h)
theorem rp_newF {F F1 F' : Hp} {l : Addr} {ob ob0 : HO} (s : Same F1 F) (hl : F1 l = some ob0) : Rp F F1 (NewF F1 l ob F') = NewF F l ob F' := by
  funext a
  by_cases e : a = l
  · subst e; rw [rp_new newF_root, newF_root]
  · cases q : F' a with
    | some o => rw [rp_new (newF_new e q), newF_new e q]
    | none =>
      rw [newF_old e q]
      cases r : F1 a with
      | some o => rw [rp_new (by rw [newF_old e q]; exact r), s _ _ r]
      | none => rw [rp_old (by rw [newF_old e q]; exact r) r]
theorem foc_root {W : List V → HO → Prop} {os : List OR} {mk : OR → OR} {I F : Hp} {v v1 : V} (h : FocAt (oC W os) mk I F v v1) : ∃ l ob vs, v1 = .ref l ∧ F l = some ob ∧ W vs ob ∧ os.length = vs.length ∧
    ∀ (W' : List V → HO → Prop) (os' : List OR) (vs' : List V) (ob' : HO) (j : Nat) (I' F' : Hp), Same I I' → (∀ a, F' a ≠ none → F a = none) → W' vs' ob' → os'.length = vs'.length →
      (∀ i o u, os'[i]? = some o → vs'[i]? = some u → if i = j then o.p I' F' u else os[i]? = some o ∧ vs[i]? = some u) → (mk (oC W' os')).p I' (NewF F l ob' F') v := by
  obtain ⟨F1, s1, ⟨l, ob, vs, e, hl, w, hlen, Ψ, k1, k2, k3, k4⟩, h3⟩ := h
  refine ⟨l, ob, vs, e, s1 _ _ hl, w, hlen, fun W' os' vs' ob' j I' F' sI nF w' hlen' hk => ?_⟩
  have F'l : F' l = none := by
    cases q : F' l with
    | none => rfl
    | some u => have := nF l (ne_of_some q); rw [s1 _ _ hl] at this; cases this
  have apart : ∀ i a, Ψ i a ≠ none → F' a = none := fun i a ha => by
    cases q : F' a with
    | none => rfl
    | some u => exact absurd (nF a (ne_of_some q)) (same_ne ((k2 i).trans s1) ha)
  rw [← rp_newF (F' := F') (ob := ob') s1 hl]
  refine h3 (oC W' os') I' _ sI (fun a ha => ?_) ⟨l, ob', vs', e, newF_root, w', hlen', putF Ψ j F', fun i o u e1 e2 => ?_, fun i a o ea => ?_, fun i => ?_, fun i m a e1 e2 => ?_⟩
  · rcases newF_ne ha with z | z | z
    · subst z; exact .inl (ne_of_some hl)
    · exact .inr (nF a z)
    · exact .inl z
  · have := hk i o u e1 e2
    by_cases hi : i = j
    · rw [if_pos hi] at this
      rw [hi, putF_same]; exact this
    · rw [if_neg hi] at this
      rw [putF_ne hi]
      exact o.mono sI (k1 i o u this.1 this.2)
  · by_cases hi : i = j
    · rw [hi, putF_same] at ea
      exact newF_new (fun z => by rw [z, F'l] at ea; cases ea) ea
    · rw [putF_ne hi] at ea
      have hn := ne_of_some ea
      rw [newF_old (fun z => by rw [z, k3 i] at ea; cases ea) (apart i a hn)]
      exact k2 i a o ea
  · by_cases hi : i = j
    · rw [hi, putF_same]; exact F'l
    · rw [putF_ne hi]; exact k3 i
  · by_cases hi : i = j
    · by_cases hm : m = j
      · rw [hi, hm]
      · rw [hi, putF_same] at e1
        rw [putF_ne hm] at e2
        exact absurd (apart m a e2) e1
    · by_cases hm : m = j
      · rw [hm, putF_same] at e2
        rw [putF_ne hi] at e1
        exact absurd (apart i a e1) e2
      · rw [putF_ne hi] at e1
        rw [putF_ne hm] at e2
        exact k4 i m a e1 e2
theorem foc_leaf {q : PL} {mk : OR → OR} {I F : Hp} {v v1 : V} (h : FocAt (oF q) mk I F v v1) : ∃ l vs, v1 = .ref l ∧ F l = some (.lst vs) ∧ q.p I vs ∧ ∀ (q' : PL) (vs' : List V) (I' : Hp), Same I I' → q'.p I' vs' → (mk (oF q')).p I' (NewF F l (.lst vs') fun _ => none) v := by
  obtain ⟨F1, s1, ⟨l, vs, e, hl, hq⟩, h3⟩ := h
  refine ⟨l, vs, e, s1 _ _ hl, hq, fun q' vs' I' sI hq' => ?_⟩
  rw [← rp_newF (F' := fun _ => none) (ob := .lst vs') s1 hl]
  refine h3 (oF q') I' _ sI (fun a ha => ?_) ⟨l, vs', e, newF_root, hq'⟩
  rcases newF_ne ha with z | z | z
  · subst z; exact .inl (ne_of_some hl)
  · exact absurd rfl z
  · exact .inl z
section
variable {X : Cx} {g : Gb} {B : Bs} {J : Hp} {S : SL} {σ : L2.St} {I H : Hp} {Φ : Nat → Hp} {i : Nat} {k : RK} {v : V}
/-- the heap is written within slot i's fragment -/
theorem HoldF.okw {H' F' : Hp} (x : Ext B.I B.H I H) (oj : Same J I) (h : HoldF g B S σ I H Φ) (e1 : σ[i]? = some (some v)) (sH : Same I H') (keep : ∀ a o, H a = some o → (Φ i a = none ∨ ∃ f, o = .ext f) → H' a = some o) (sF : Same F' H') (nF : ∀ a, F' a ≠ none → Φ i a ≠ none ∨ (I a = none ∧ B.H a = none ∧ ∀ j, Φ j a = none)) (hv : RK.inS g k B.H v I F') :
    Ok g B J (S.set i (some k)) σ I H' := by
  have other : ∀ a o, B.H a = some o → Φ i a = none := fun a o e => by
    cases q : Φ i a with
    | none => rfl
    | some u => have := (h.fr i a u q).2.2; rw [e] at this; cases this
  have tH : Tbs H' := h.tb.t.keep (fun p hp o e => keep _ o e (.inl (h.noT i p hp))) fun a f e => keep a _ e (.inr ⟨f, rfl⟩)
  have sB : SW B.H H' := h.base.kept tH fun a o o' e e' => keep a o' e' (.inl (other a o e))
  have hσ : σ.set i (some v) = σ := by
    apply List.ext_getElem?
    intro j
    by_cases hj : i = j
    · subst hj
      rw [List.getElem?_set_self (List.getElem?_eq_some_iff.mp e1).1, e1]
    · rw [List.getElem?_set_ne hj]
  refine ⟨⟨x.i, sB, sH, x.n⟩, oj, putF Φ i F', ?_⟩
  have h2 : HoldF g B (S.set i (some k)) (σ.set i (some v)) I H' (putF Φ i F') := by
    refine ⟨by rw [List.length_set, List.length_set, h.len], sH, sB, ⟨tH, h.tb.b, h.tb.i⟩, fun j k' e => ?_, fun j a o e => ?_, fun j l a hj hl => ?_⟩
    · rcases set_some e with ⟨a, b, c⟩ | ⟨a, b⟩
      · subst a
        cases b
        exact ⟨v, List.getElem?_set_self (by rw [h.len]; exact c), by rw [putF_same]; exact hv⟩
      · obtain ⟨u, e2, q⟩ := h.at_ j k' b
        exact ⟨u, by rw [List.getElem?_set_ne a]; exact e2, by rw [putF_ne (fun z => a z.symm)]; exact q⟩
    · by_cases hji : j = i
      · rw [hji, putF_same] at e
        refine ⟨sF a o e, ?_⟩
        rcases nF a (ne_of_some e) with z | ⟨z1, z2, _⟩
        · exact (h.ne z).2
        · exact ⟨z1, z2⟩
      · rw [putF_ne hji] at e
        obtain ⟨f1, f2, f3⟩ := h.fr j a o e
        refine ⟨keep a o f1 (.inl ?_), f2, f3⟩
        cases q : Φ i a with
        | none => rfl
        | some u => exact absurd (h.dj j i a (ne_of_some e) (ne_of_some q)) hji
    · have no : ∀ m, m ≠ i → F' a ≠ none → Φ m a ≠ none → False := fun m hm f1 f2 => by
        rcases nF a f1 with z | ⟨_, _, z3⟩
        · exact hm (h.dj m i a f2 z)
        · exact f2 (z3 m)
      by_cases hji : j = i
      · by_cases hli : l = i
        · rw [hji, hli]
        · rw [hji, putF_same] at hj
          rw [putF_ne hli] at hl
          exact (no l hli hj hl).elim
      · by_cases hli : l = i
        · rw [hli, putF_same] at hl
          rw [putF_ne hji] at hj
          exact (no j hji hl hj).elim
        · rw [putF_ne hji] at hj
          rw [putF_ne hli] at hl
          exact h.dj j l a hj hl
  rw [hσ] at h2
  exact h2
/-- one object of slot i's fragment gets new contents; F' comes along -/
theorem HoldF.store {l : Addr} {ob ob0 : HO} {F' : Hp} {o : OR} (x : Ext B.I B.H I H) (oj : Same J I) (h : HoldF g B S σ I H Φ) (e1 : σ[i]? = some (some v)) (hl : Φ i l = some ob0) (sF : Same F' H) (nF : ∀ a, F' a ≠ none → I a = none ∧ B.H a = none ∧ ∀ j, Φ j a = none) (hv : o.p I (NewF (Φ i) l ob F') v) (hx : nx ob0 = true := by rfl) :
    Ok g B J (S.set i (some (.ow o))) σ I (upd H l ob) := by
  obtain ⟨f1, f2, f3⟩ := h.fr i l _ hl
  refine h.okw x oj e1 (F' := NewF (Φ i) l ob F') (fun a o e => ?_) (fun a o e z => ?_) (fun a o e => ?_) (fun a ha => ?_) hv
  · rw [upd_ne (ne_of_none e f2)]
    exact h.sub a o e
  · rw [upd_ne (fun y => by
      rcases z with z | ⟨f, z⟩
      · rw [y, hl] at z; cases z
      · rw [y, f1] at e
        cases e
        rw [z] at hx; cases hx)]
    exact e
  · by_cases hal : a = l
    · subst hal
      rw [newF_root] at e
      rw [upd_same]; exact e
    · rw [upd_ne hal]
      cases q : F' a with
      | some u =>
        rw [newF_new hal q] at e
        cases e
        exact sF a _ q
      | none =>
        rw [newF_old hal q] at e
        exact (h.fr i a o e).1
  · rcases newF_ne ha with z | z | z
    · subst z; exact .inl (ne_of_some hl)
    · exact .inr (nF a z)
    · exact .inl z
end
/-- e is a place in the tree of slot i -/
structure MP {ι : Type} (X : Cx) (g : Gb) (B : Bs) (S : SL) (i : Nat) (e : Expr) (m : Option ι) (o1 : ι → OR) (mk : ι → OR → OR) : Prop where
  run : ∀ x, m = some x → PE X e (fun σ H Q => ∃ I Φ, HoldF g B S σ I H Φ ∧ ∀ v1 I' H', Ext I H I' H' → (∃ v, σ[i]? = some (some v) ∧ FocAt (o1 x) (mk x) I' (Φ i) v v1) → Q v1 H')
def fidx : List Str → Str → Option Nat
  | [], _ => none
  | n :: ns, f => if (f == n) = true then some 0 else (fidx ns f).map (· + 1)
theorem lookup_zip {f : Str} : ∀ {names : List Str} {vs : List V} {j : Nat}, fidx names f = some j → names.length = vs.length → (names.zip vs).lookup f = vs[j]?
  | [], _, j, h, _ => by cases h
  | n :: ns, [], j, _, hl => by cases hl
  | n :: ns, v :: vs, j, h, hl => by
    unfold fidx at h
    show List.lookup f ((n, v) :: ns.zip vs) = _
    cases hb : f == n with
    | true =>
      rw [hb, if_pos rfl] at h
      cases h
      simp only [List.lookup, hb]; rfl
    | false =>
      rw [hb, if_neg Bool.false_ne_true] at h
      obtain ⟨j', e1, e2⟩ := Option.map_eq_some_iff.mp h
      subst e2
      simp only [List.lookup, hb]
      rw [lookup_zip e1 (by simpa using hl)]; rfl
theorem lookup_zip_no {f : Str} : ∀ {names : List Str} {vs : List V}, fidx names f = none → (names.zip vs).lookup f = none
  | [], _, _ => rfl
  | n :: ns, [], _ => rfl
  | n :: ns, v :: vs, h => by
    unfold fidx at h
    show List.lookup f ((n, v) :: ns.zip vs) = _
    cases hb : f == n with
    | true => rw [hb, if_pos rfl] at h; cases h
    | false =>
      rw [hb, if_neg Bool.false_ne_true] at h
      simp only [List.lookup, hb]
      exact lookup_zip_no (Option.map_eq_none_iff.mp h)
theorem putF_zip {f : Str} {w : V} : ∀ {names : List Str} {vs : List V} {j : Nat}, fidx names f = some j → names.length = vs.length → L2.putF f w (names.zip vs) = names.zip (vs.set j w)
  | [], _, j, h, _ => by cases h
  | n :: ns, [], j, _, hl => by cases hl
  | n :: ns, v :: vs, j, h, hl => by
    unfold fidx at h
    show L2.putF f w ((n, v) :: ns.zip vs) = _
    unfold L2.putF
    by_cases hb : n = f
    · subst hb
      rw [if_pos (beq_self_eq_true n)] at h
      cases h
      rw [if_pos rfl]; rfl
    · have hb2 : (f == n) = false := beq_eq_false_iff_ne.mpr fun z => hb z.symm
      rw [hb2, if_neg Bool.false_ne_true] at h
      obtain ⟨j', e1, e2⟩ := Option.map_eq_some_iff.mp h
      subst e2
      rw [if_neg hb, putF_zip e1 (by simpa using hl)]; rfl
theorem putF_zip_no {f : Str} {w : V} : ∀ {names : List Str} {vs : List V}, fidx names f = none → names.length = vs.length → L2.putF f w (names.zip vs) = (names ++ [f]).zip (vs ++ [w])
  | [], [], _, _ => rfl
  | [], _ :: _, _, hl => by cases hl
  | n :: ns, [], _, hl => by cases hl
  | n :: ns, v :: vs, h, hl => by
    unfold fidx at h
    show L2.putF f w ((n, v) :: ns.zip vs) = _
    unfold L2.putF
    by_cases hb : n = f
    · subst hb
      rw [if_pos (beq_self_eq_true n)] at h
      cases h
    · have hb2 : (f == n) = false := beq_eq_false_iff_ne.mpr fun z => hb z.symm
      rw [hb2, if_neg Bool.false_ne_true] at h
      rw [if_neg hb, putF_zip_no (Option.map_eq_none_iff.mp h) (by simpa using hl)]; rfl
/-- a class of the program's own, plain, which has not the name f -/
def Cf (X : Cx) (g : Gb) (c f : Str) : Prop := ∃ C, g.mg c = some (.ref C) ∧ Cls X.K C ∧ NoAttr X.K C f
/-- the place of an item, and the item -/
@[irreducible] def plO {α : Type} (xs : List α) (n : Int) : Option (Nat × α) := (ixN xs.length n).bind fun j => xs[j]?.map fun a => (j, a)
section
variable {X : Cx} {g : Gb} {B : Bs} {J : Hp} {S : SL} {e e1 e2 e3 : Expr} {pos pos' p p2 p3 apos cpos : Pos} {i : Nat} {o ι : Type} {K : KT o} {rest : List Stmt} {α β : Type} [Py α] [Py β] {m : Option ι} {mk : ι → OR → OR}
theorem mp_ow (i : Nat) {x : Str} {o1 : OR} (hS : S[i]? = some (some (.ow o1)) := by rfl) (hN : X.N[i]? = some x := by rfl) (hv : Vis X.env.scope x := by first | exact Or.inl rfl | exact Or.inr (Or.inl rfl) | exact Or.inr (Or.inr rfl))
    (hd : (x == ("__debug__" : Str)) = false := by decide) (hcd : (x == ("__classdict__" : Str)) = false := by decide) : MP X g B S i (.Name x pos) (some ()) (fun _ => o1) (fun _ o' => o') := by
  refine ⟨fun _ _ => pe_imp (pe_var hN hv hd hcd) fun σ H Q ⟨I, Φ, h, q⟩ => ?_⟩
  obtain ⟨v, e1, h1⟩ := h.at_ i _ hS
  exact ⟨v, e1, q v I H (Ext.refl h.sub) ⟨v, e1, foc_self h1⟩⟩
theorem mp_fld {c f : Str} {names : List Str} {os : ι → List OR} {oj : ι → OR} (j : Nat) (h : MP X g B S i e m (fun x => oC (wI g c names) (os x)) mk) (hC : Cf X g c f) (hj : fidx names f = some j := by decide +kernel) (ho : ∀ x, (os x)[j]? = some (oj x) := by intro _; rfl) (hb : attributeBase e f X.env (eval e X.env) = eval e X.env := by rfl) :
    MP X g B S i (.Attribute e f pos) m oj (fun x o' => mk x (oC (wI g c names) ((os x).set j o'))) := by
  refine ⟨fun x q => pe_imp (pe_fld (h.run x q) hb) fun σ H Q ⟨I, Φ, hh, kk⟩ => ⟨I, Φ, hh, fun v1 I' H' x1 ⟨v, e1, fc⟩ => ?_⟩⟩
  obtain ⟨l, ob, vs, uj, rfl, hl, ⟨C, dx, c1, c2, c3⟩, c4, hu, fc'⟩ := foc_kid (ho x) fc
  subst c2
  obtain ⟨C', d1, d2, d3⟩ := hC
  rw [c1] at d1
  cases d1
  exact ⟨l, _, dx, _, uj, rfl, x1.h.get _ _ (hh.fr i l _ hl).1, d2, d3, by rw [lookup_zip hj c3]; exact hu, kk uj I' H' x1 ⟨v, e1, fc'⟩⟩
/-! statements at a place -/
/-- place.append(e2) -/
theorem mb_appP {as : ι → List α} {m2 : Option α} {f : ι → List α → Option o} (h : MP X g B S i e m (fun x => oF (rl g (as x))) mk) (he : ME X g B S e2 m2 (KI g)) (hb : ∀ x bs, MB X g B J (S.set i (some (.ow (mk x (oF (rl g bs)))))) rest (f x bs) K)
    (hs : swapsWith (.Call (.Attribute e "append" apos) [e2] [] cpos) none pos.line X.env = pure false := by rfl) (hst : starEach [e2] X.env = (false, eval e2 X.env) :: starEach [] X.env := by rfl)
    (hbase : attributeBase e "append" X.env (eval e X.env) = eval e X.env := by rfl)
    (hfew : ((backTo cpos (starEach [e2] X.env)).all (fun x => !x.1) && (backToKw cpos (keywordEach [] X.env)).all (fun x => x.1.isSome) && decide ([e2].length + ([] : List Keyword).length + (if ([] : List Keyword).isEmpty then 0 else 1) < 30)) = true := by rfl)
    (hline : (apos.endLine == cpos.line) = true := by rfl) (hplain : (backTo cpos (starEach [] X.env)).any (·.1) = false := by rfl) :
    MB X g B J S (.Expr (.Call (.Attribute e "append" apos) [e2] [] cpos) pos :: rest) (m >>= fun x => m2 >>= fun a => appO (as x) a >>= fun bs => f x bs) K := by
  refine ⟨fun r q => ?_⟩
  obtain ⟨x, q1, q⟩ := bind_some q
  obtain ⟨a, q2, q⟩ := bind_some q
  obtain ⟨bs, q3, q4⟩ := bind_some q
  unfold appO at q3
  by_cases hz : decide ((as x).length < sizeLine) = true
  · rw [if_pos hz] at q3
    cases q3
    have hz' := of_decide_eq_true hz
    refine pss_imp (pss_cons (ps_expr (pe_bm PySem.F.plainAttrs_list PySem.F.slot_list_append PySem.F.type_list_append mt_append (h.run x q1) (pa_cons (he.run a q2) pa_nil hst) hbase hfew hline hst hplain) hs) ((hb x _).run r q4)) fun D σ H ⟨I, ok, kk⟩ => ?_
    obtain ⟨x0, oj, Φ, hh⟩ := ok
    refine ⟨I, Φ, hh, fun v1 I1 H1 x1 ⟨v, e1, fc⟩ => ?_⟩
    obtain ⟨l, vs, rfl, hl, hq, put⟩ := foc_leaf fc
    have h1 := x1.h.get _ _ (hh.fr i l _ hl).1
    refine ⟨.inl ⟨rfl, _, SqL.of h1⟩, I1, ⟨Φ, hh.ext x1⟩, fun w I2 H2 x2 hw => ⟨l, vs, w, rfl, rfl, x2.h.get _ _ h1, by rw [rl_len hq]; exact hz', I2, ?_, kk⟩⟩
    have x12 := x1.trans x2
    refine HoldF.store (x0.trans x12) (oj.trans x12.i) (hh.ext x12) e1 hl (F' := fun _ => none) (fun _ _ z => by cases z) (fun a z => absurd rfl z) (put (rl g _) _ I2 x2.i ⟨?_, paired_app ((rl g (as x)).mono x2.i hq).2 (.cons hw .nil)⟩)
    rw [List.length_append, List.length_singleton]
    omega
  · rw [if_neg hz] at q3
    cases q3
/-- place[e1] = e2 -/
theorem mb_setiP {as : ι → List α} {m1 : Option Int} {m2 : Option α} {f : ι → List α → Option o} (he : ME X g B S e2 m2 (KI g)) (h : MP X g B S i e m (fun x => oF (rl g (as x))) mk) (h1 : ME X g B S e1 m1 (KI g)) (hb : ∀ x bs, MB X g B J (S.set i (some (.ow (mk x (oF (rl g bs)))))) rest (f x bs) K)
    (hs : swapsWithSole [.Subscript e e1 apos] e2 pos.line X.env = pure false := by rfl) (hw : swappedStores [.Subscript e e1 apos] e2 X.env = pure none := by rfl)
    (h1' : (assignEach [Expr.Subscript e e1 apos] X.env).map (·.2) = [assign (.Subscript e e1 apos) X.env] := by rfl)
    (ha : ∀ v, assign (.Subscript e e1 apos) X.env v = (do
      let ov ← holding [v] (eval e X.env)
      let iv ← holding [v, ov] (eval e1 X.env)
      standAt apos
      holding [v, ov, iv] (setItem ov iv v)
      release [v, ov, iv] []) := by intro _; rfl) :
    MB X g B J S (.Assign [.Subscript e e1 apos] e2 pos :: rest) (m2 >>= fun a => m >>= fun x => m1 >>= fun n => setO (as x) n a >>= fun bs => f x bs) K := by
  refine ⟨fun r q => ?_⟩
  obtain ⟨a, q2, q⟩ := bind_some q
  obtain ⟨x, q1, q⟩ := bind_some q
  obtain ⟨n, qn, q⟩ := bind_some q
  obtain ⟨bs, q3, q4⟩ := bind_some q
  unfold setO at q3
  cases hj : ixN (as x).length n with
  | none => rw [hj] at q3; cases q3
  | some j =>
    rw [hj] at q3
    cases q3
    refine pss_imp (pss_cons (ps_asg (he.run a q2) (pg_sub (h.run x q1) (h1.run n qn) set_list ha) hs hw h1') ((hb x _).run r q4)) fun D σ H ⟨I, ok, kk⟩ => ?_
    obtain ⟨x0, oj, Φ, hh⟩ := ok
    refine ⟨I, ⟨Φ, hh⟩, fun w I1 H1 x1 hw => ⟨I1, Φ, hh.ext x1, fun v1 I2 H2 x2 ⟨v, e1, fc⟩ => ⟨I2, ⟨Φ, (hh.ext x1).ext x2⟩, fun y I3 H3 x3 hy => ?_⟩⟩⟩
    obtain ⟨l, vs, rfl, hl, hq, put⟩ := foc_leaf fc
    have x13 := (x1.trans x2).trans x3
    have hl3 := x13.h.get _ _ (hh.fr i l _ hl).1
    refine ⟨l, vs, n, j, rfl, hy, hl3, by rw [rl_len hq]; exact hj, I3, ?_, kk⟩
    refine HoldF.store (x0.trans x13) (oj.trans x13.i) (hh.ext x13) e1 hl (F' := fun _ => none) (fun _ _ z => by cases z) (fun a z => absurd rfl z) (put (rl g _) _ I3 x3.i ⟨?_, paired_set (F := fun a v => (Py.r g a).p I3 v) ((Py.r g a).mono (x2.i.trans x3.i) hw) _ ((rl g (as x)).mono x3.i hq).2⟩)
    rw [List.length_set]
    exact hq.1
/-- place.f = value: a field that is there -/
theorem mb_fldP {a' : Type} {c f : Str} {names : List Str} {os : ι → List OR} {m2 : Option a'} {k : a' → RK} {fn : ι → a' → Option o} (j : Nat) (hv : ME X g B S e2 m2 k) (h : MP X g B S i e m (fun x => oC (wI g c names) (os x)) mk) (hC : Cf X g c f)
    (hb : ∀ x a, MB X g B J (S.set i (some (.ow (mk x (oC (wI g c names) ((os x).set j (k a).orOf)))))) rest (fn x a) K) (hj : fidx names f = some j := by decide +kernel) (hk : ∀ a, (k a).slotty = true := by intro _; rfl) (hn : names.length < 1000 := by decide)
    (hs : swapsWith e2 (some (.Attribute e f apos)) pos.line X.env = pure false := by rfl) : MB X g B J S (.Assign [.Attribute e f apos] e2 pos :: rest) (m2 >>= fun a => m >>= fun x => fn x a) K := by
  refine ⟨fun r q => ?_⟩
  obtain ⟨a, q2, q⟩ := bind_some q
  obtain ⟨x, q1, q3⟩ := bind_some q
  refine pss_imp (pss_cons (ps_fld (h.run x q1) (hv.run a q2) hs) ((hb x a).run r q3)) fun D σ H ⟨I, ok, kk⟩ => ?_
  obtain ⟨x0, oj, Φ, hh⟩ := ok
  refine ⟨I, ⟨Φ, hh⟩, fun w I1 H1 x1 hw => ⟨I1, Φ, hh.ext x1, fun v1 I2 H2 x2 ⟨v, e1, fc⟩ => ?_⟩⟩
  obtain ⟨F', f1, f2, f3⟩ := RK.fragO (hk a) (RK.ext hw x2 hh.tb.has)
  obtain ⟨l, ob, vs, rfl, hl, ⟨C, dx, c1, c2, c3⟩, c4, put⟩ := foc_root fc
  subst c2
  obtain ⟨C', d1, d2, d3⟩ := hC
  rw [c1] at d1
  cases d1
  have x12 := x1.trans x2
  have hl2 := x12.h.get _ _ (hh.fr i l _ hl).1
  have none_of : ∀ a, F' a ≠ none → ∀ j, Φ j a = none := fun a ha j => by
    cases q : Φ j a with
    | none => rfl
    | some u => exact absurd (f1 a ha).1 (ne_of_some (hh.fr j a u q).1)
  refine ⟨l, _, dx, _, rfl, hl2, d2, d3, ?_, I2, ?_, kk⟩
  · rw [List.length_zip, c3, Nat.min_self, ← c3]; exact hn
  · rw [putF_zip hj c3]
    refine HoldF.store (x0.trans x12) (oj.trans x12.i) (hh.ext x12) e1 hl (F' := F') f2 (fun a ha => ⟨(f1 a ha).2, hh.base.free (f1 a ha).1, none_of a ha⟩) ?_
    refine put (wI g c names) ((os x).set j (k a).orOf) (vs.set j w) _ j I2 F' (Same.refl _) (fun a ha => none_of a ha i) ⟨_, dx, c1, rfl, by rw [List.length_set]; exact c3⟩ (by rw [List.length_set, List.length_set]; exact c4) fun i' o' u e1 e2 => ?_
    rcases set_get e1 with ⟨y1, y2⟩ | ⟨y1, y2⟩
    · subst y1 y2
      rcases set_get e2 with ⟨_, z⟩ | ⟨z, _⟩
      · rw [if_pos rfl, z]; exact f3
      · exact absurd rfl z
    · rcases set_get e2 with ⟨z, _⟩ | ⟨_, z⟩
      · exact absurd z y1
      · rw [if_neg y1]; exact ⟨y2, z⟩
/-- place.f = value: a new field -/
theorem mb_fldN {a' : Type} {c f : Str} {names : List Str} {os : ι → List OR} {m2 : Option a'} {k : a' → RK} {fn : ι → a' → Option o} (hv : ME X g B S e2 m2 k) (h : MP X g B S i e m (fun x => oC (wI g c names) (os x)) mk) (hC : Cf X g c f)
    (hb : ∀ x a, MB X g B J (S.set i (some (.ow (mk x (oC (wI g c (names ++ [f])) (os x ++ [(k a).orOf])))))) rest (fn x a) K) (hj : fidx names f = none := by decide +kernel) (hk : ∀ a, (k a).slotty = true := by intro _; rfl) (hn : names.length < 1000 := by decide)
    (hs : swapsWith e2 (some (.Attribute e f apos)) pos.line X.env = pure false := by rfl) : MB X g B J S (.Assign [.Attribute e f apos] e2 pos :: rest) (m2 >>= fun a => m >>= fun x => fn x a) K := by
  refine ⟨fun r q => ?_⟩
  obtain ⟨a, q2, q⟩ := bind_some q
  obtain ⟨x, q1, q3⟩ := bind_some q
  refine pss_imp (pss_cons (ps_fld (h.run x q1) (hv.run a q2) hs) ((hb x a).run r q3)) fun D σ H ⟨I, ok, kk⟩ => ?_
  obtain ⟨x0, oj, Φ, hh⟩ := ok
  refine ⟨I, ⟨Φ, hh⟩, fun w I1 H1 x1 hw => ⟨I1, Φ, hh.ext x1, fun v1 I2 H2 x2 ⟨v, e1, fc⟩ => ?_⟩⟩
  obtain ⟨F', f1, f2, f3⟩ := RK.fragO (hk a) (RK.ext hw x2 hh.tb.has)
  obtain ⟨l, ob, vs, rfl, hl, ⟨C, dx, c1, c2, c3⟩, c4, put⟩ := foc_root fc
  subst c2
  obtain ⟨C', d1, d2, d3⟩ := hC
  rw [c1] at d1
  cases d1
  have x12 := x1.trans x2
  have hl2 := x12.h.get _ _ (hh.fr i l _ hl).1
  have none_of : ∀ a, F' a ≠ none → ∀ j, Φ j a = none := fun a ha j => by
    cases q : Φ j a with
    | none => rfl
    | some u => exact absurd (f1 a ha).1 (ne_of_some (hh.fr j a u q).1)
  refine ⟨l, _, dx, _, rfl, hl2, d2, d3, ?_, I2, ?_, kk⟩
  · rw [List.length_zip, c3, Nat.min_self, ← c3]; exact hn
  · rw [putF_zip_no hj c3]
    refine HoldF.store (x0.trans x12) (oj.trans x12.i) (hh.ext x12) e1 hl (F' := F') f2 (fun a ha => ⟨(f1 a ha).2, hh.base.free (f1 a ha).1, none_of a ha⟩) ?_
    refine put (wI g c (names ++ [f])) (os x ++ [(k a).orOf]) (vs ++ [w]) _ (os x).length I2 F' (Same.refl _) (fun a ha => none_of a ha i) ⟨_, dx, c1, rfl, by simp [c3]⟩ (by simp [c4]) fun i' o' u e1 e2 => ?_
    by_cases hi : i' < (os x).length
    · rw [List.getElem?_append_left hi] at e1
      rw [List.getElem?_append_left (by omega)] at e2
      rw [if_neg (by omega)]
      exact ⟨e1, e2⟩
    · have hlt := (List.getElem?_eq_some_iff.mp e1).1
      rw [List.length_append, List.length_singleton] at hlt
      have hi2 : i' = (os x).length := by omega
      subst hi2
      rw [List.getElem?_append_right (Nat.le_refl _), Nat.sub_self] at e1
      rw [c4, List.getElem?_append_right (Nat.le_refl _), Nat.sub_self] at e2
      cases e1
      cases e2
      rw [if_pos rfl]; exact f3
end
end T
set_option Elab.async false
set_option linter.all false
set_option maxRecDepth 100000
namespace T
variable [TabsC]
open PySem PySem.Spec PyProof.Rows L2
/-! defs that change what they are handed -/
/-- an owned thing that is the value v0 -/
def oP (v0 : V) (o : OR) : OR := ⟨fun I F v => v = v0 ∧ o.p I F v, fun s h => ⟨h.1, o.mono s h.2⟩⟩
def RK.pin (v0 : V) : RK → RK
  | .ow o => .ow (oP v0 o)
  | k => k
def pinL (u : Nat → V) : List RK → Nat → List RK
  | [], _ => []
  | k :: ks, n => k.pin (u n) :: pinL u ks (n + 1)
structure ArgsF (g : Gb) (ks : List RK) (vs : List V) (I R H : Hp) (Φ : Nat → Hp) : Prop where
  len : ks.length = vs.length
  at_ : ∀ (i : Nat) (k : RK) (v : V), ks[i]? = some k → vs[i]? = some v → RK.inS g k R v I (Φ i)
  fr : ∀ (i : Nat) (a : Addr) (o : HO), Φ i a = some o → H a = some o ∧ I a = none ∧ R a = none
  dj : ∀ (i j : Nat) (a : Addr), Φ i a ≠ none → Φ j a ≠ none → i = j
/-- what holds behind the call: the value v with its fragment F, what was handed in with the fragments Φ' -/
structure Post (g : Gb) (I R : Hp) (k : RK) (outs : List (Nat × OR)) (vs : Nat → Option V) (v : V) (I' H' F : Hp) (Φ' : Nat → Hp) : Prop where
  i : Same I I'
  s : Same I' H'
  h : SW R H'
  tb : Tbs H'
  n : ∀ l, R l ≠ none → I l = none → I' l = none
  fF : ∀ b, F b ≠ none → R b = none ∧ I' b = none
  sF : Same F H'
  val : RK.inS g k R v I' F
  out : ∀ p ∈ outs, ∃ u, vs p.1 = some u ∧ p.2.p I' (Φ' p.1) u
  fr : ∀ (i : Nat) (a : Addr) (o : HO), Φ' i a = some o → H' a = some o ∧ I' a = none ∧ R a = none
  dj : ∀ (i j : Nat) (a : Addr), Φ' i a ≠ none → Φ' j a ≠ none → i = j
  dv : ∀ (i : Nat) (a : Addr), Φ' i a ≠ none → F a = none
def spIO {ι β : Type} (g : Gb) (args : ι → List RK) (M : ι → Option β) (k : β → RK) (outs : β → List (Nat × OR)) : Sp := fun vs H Q _ => ∃ I R Φ a r, Same I H ∧ Same R H ∧ TbH R I H ∧ ArgsF g (args a) vs I R H Φ ∧ M a = some r ∧
  ∀ v I' H' F Φ', Post g I R (k r) (outs r) (fun i => vs[i]?) v I' H' F Φ' → Q v H'
/-- the ends of such a def: it hands back a value; it falls off its end -/
def Kio {β : Type} (g : Gb) (B : Bs) (u : Nat → V) (k : β → RK) (outs : β → List (Nat × OR)) : KT β := fun r D => (∀ v I' H' F Φ', Post g B.I B.H (k r) (outs r) (fun i => some (u i)) v I' H' F Φ' → D.rt v H')
def KioU {β : Type} (g : Gb) (B : Bs) (u : Nat → V) (outs : β → List (Nat × OR)) : KT β := fun r D => (∀ I' H' F Φ' σ, Post g B.I B.H (.im (Py.r g ())) (outs r) (fun i => some (u i)) .non I' H' F Φ' → D.nx σ H' ∧ D.rt .non H')
section
variable {P : Program} {w : World} {K : PySem.W.Frag} {mg : Str → Option Value} {base : Heap} {ι β : Type} {args : ι → List RK} {M : ι → Option β} {kd : β → RK} {outs : β → List (Nat × OR)}
def RK.argio : RK → Bool
  | .im _ => true
  | .bw _ => true
  | .ow _ => true
  | _ => false
theorem pinL_get {u : Nat → V} : ∀ {ks : List RK} {n i : Nat} {k : RK}, (pinL u ks n)[i]? = some k → ∃ k0, ks[i]? = some k0 ∧ k = k0.pin (u (n + i))
  | [], _, _, _, h => by simp [pinL] at h
  | k0 :: ks, n, 0, k, h => by
    cases h
    exact ⟨k0, rfl, rfl⟩
  | k0 :: ks, n, i + 1, k, h => by
    obtain ⟨k1, e1, e2⟩ := pinL_get (ks := ks) (n := n + 1) (i := i) (by simpa [pinL] using h)
    exact ⟨k1, by simpa using e1, by rw [e2]; congr 2; omega⟩
theorem pinL_len {u : Nat → V} : ∀ {ks : List RK} {n : Nat}, (pinL u ks n).length = ks.length
  | [], _ => rfl
  | _ :: ks, n => by
    show (pinL u ks (n + 1)).length + 1 = ks.length + 1
    rw [pinL_len]
theorem holdF_start {g : Gb} {N : List Str} {ks : List RK} {vs : List V} {I R H : Hp} {Φ : Nat → Hp} (hl : ks.length ≤ N.length) (s : Same I H) (sR : Same R H) (tb : TbH R I H) (hA : ArgsF g ks vs I R H Φ) (hI : ∀ a o, I a = some o → H a = some o) :
    Hold g ⟨I, R⟩ (S0 N (pinL (fun i => vs.getD i .non) ks 0)) (L2.start N vs) I H := by
  have arg : ∀ {i : Nat} {k : RK}, (S0 N (pinL (fun i => vs.getD i .non) ks 0))[i]? = some (some k) → (pinL (fun i => vs.getD i .non) ks 0)[i]? = some k := fun {i k} e => by
    unfold S0 at e
    by_cases hi : i < (pinL (fun i => vs.getD i .non) ks 0).length
    · rw [List.getElem?_append_left (by rw [List.length_map]; exact hi), List.getElem?_map] at e
      cases q : (pinL (fun i => vs.getD i .non) ks 0)[i]? with
      | none => rw [q] at e; cases e
      | some k' => rw [q] at e; cases e; rfl
    · rw [List.getElem?_append_right (by rw [List.length_map]; omega)] at e
      obtain ⟨h1, h2⟩ := List.getElem?_eq_some_iff.mp e
      rw [List.getElem_replicate] at h2
      cases h2
  have hlen := hA.len
  refine ⟨Φ, ?_, s, sR, tb, fun i k e => ?_, hA.fr, hA.dj⟩
  · unfold S0 L2.start
    simp only [List.length_append, List.length_map, List.length_replicate, pinL_len]
    omega
  · obtain ⟨k0, e1, e2⟩ := pinL_get (arg e)
    have hi : i < vs.length := by rw [← hlen]; exact (List.getElem?_eq_some_iff.mp e1).1
    have e3 : vs[i]? = some vs[i] := List.getElem?_eq_getElem hi
    refine ⟨vs[i], ?_, ?_⟩
    · unfold L2.start
      rw [List.getElem?_append_left (by rw [List.length_map]; exact hi), List.getElem?_map, e3]
      rfl
    · have q := hA.at_ i k0 _ e1 e3
      subst e2
      cases k0 with
      | ow o =>
        refine ⟨?_, q⟩
        show _ = vs.getD (0 + i) .non
        rw [Nat.zero_add, List.getD_eq_getElem?_getD, e3]; rfl
      | im p => exact q
      | bw p => exact q
      | fr p => exact q
      | rd p => exact q
theorem post_u {g : Gb} {I R : Hp} {k : RK} {outs : List (Nat × OR)} {vs : List V} {v : V} {I' H' F : Hp} {Φ' : Nat → Hp} (ho : ∀ p ∈ outs, p.1 < vs.length) (h : Post g I R k outs (fun i => some (vs.getD i .non)) v I' H' F Φ') : Post g I R k outs (fun i => vs[i]?) v I' H' F Φ' :=
  ⟨h.i, h.s, h.h, h.tb, h.n, h.fF, h.sF, h.val, fun p hp => by
    obtain ⟨u, e1, e2⟩ := h.out p hp
    have hl := ho p hp
    have e3 : vs[p.1]? = some vs[p.1] := List.getElem?_eq_getElem hl
    refine ⟨u, ?_, e2⟩
    show vs[p.1]? = some u
    rw [← e1, e3, List.getD_eq_getElem?_getD, e3]; rfl, h.fr, h.dj, h.dv⟩
/-- what a def's facts are: with or without defaults -/
structure FunX (K : PySem.W.Frag) (x qual : Str) (st : Stmt) (f : Addr) (fd : FuncData) : Prop where
  ex : ∃ (oc : Value) (od : Option Addr) (dV kV doc pm : Value) (an : Option Addr) (cdv ct : Value) (osl : Array (Option Value)),
    fd = PySem.W.fnOf x qual (defArgs st) (defBody st) (defScope st) dV kV doc pm an cdv ct ∧ K.lookup f = some ⟨oc, od, .func fd, osl⟩ ∧ PySem.W.codeIn K cdv qual = true
  kp : PySem.W.keepIn K (.ref f) = true
theorem FunX.ok {x qual : Str} {st : Stmt} {f : Addr} {fd : FuncData} {N ps : List Str} {k : Nat} {sp : Sp} (F : FunX K x qual st f fd) (S : FnScope N ps (defScope st)) (len : ∀ vs H Q E, sp vs H Q E → vs.length = ps.length)
    (hbody : ∀ (cdv : Value) (A : Around) (outer : List Env) (s : Shared) (H : Hp) (vs : List V) (Q : VK) (E : XK), Room k (A.deeper (envOfC qual (defScope st) s.heap.objs.size f cdv)) → sp vs H Q E →
      ∃ t, PSs (cxOf CX0 P w K mg base N qual (defScope st) f cdv A outer s H E).nox (defBody st) t ∧ t { nx := fun _ H' => Q .non H', rt := Q } (start N vs) H) : FnOk P w K mg base CX0 (k + 1) f fd ps sp := by
  obtain ⟨oc, od, dV, kV, doc, pm, an, cdv, ct, osl, rfl, lk, hcd⟩ := F.ex
  refine fn_of lk hcd S len fun A outer s H vs Q E hr hsp => ?_
  obtain ⟨t, h, q⟩ := hbody cdv A outer s H vs Q E hr hsp
  exact ⟨t, h.nox, q⟩
theorem fnx_mk {x qual : Str} {st : Stmt} {f : Addr} {fd : FuncData} {N ps : List Str} {k : Nat} (F : FunX K x qual st f fd) (Sc : FnScope N ps (defScope st)) (hn : ∀ a, (args a).length = ps.length) (hk : ∀ a, (args a).all RK.argy = true) (hN : ps.length ≤ N.length)
    (body : ∀ (cdv : Value) (A : Around) (outer : List Env) (s : Shared) (H : Hp) (E : XK) (I : Hp) (a : ι), Room k (A.deeper (envOfC qual (defScope st) s.heap.objs.size f cdv)) →
      MB (cxOf CX0 P w K mg base N qual (defScope st) f cdv A outer s H E).nox ⟨K, mg⟩ ⟨I, H⟩ I (S0 N (args a)) (defBody st) (M a) (Kt ⟨K, mg⟩ ⟨I, H⟩ kd)) :
    FnOk P w K mg base CX0 (k + 1) f fd ps (spT ⟨K, mg⟩ args M kd) := by
  refine F.ok Sc (fun vs H Q E ⟨I, a, r, s, _, hA, _⟩ => ?_) (fun cdv A outer s H vs Q E hr ⟨I, a, r, si, tb, hA, hM, q⟩ => ?_)
  · rw [← Paired.length hA, hn]
  · exact ⟨_, (body cdv A outer s H E I a hr).run r hM, I, hold_start (by rw [hn]; exact hN) si tb hA (hk a), fun v I' H' x hv => q v I' H' x hv⟩
/-- a def that hands back nothing -/
theorem fiu_mk {x qual : Str} {st : Stmt} {f : Addr} {fd : FuncData} {N ps : List Str} {k : Nat} (F : FunX K x qual st f fd) (Sc : FnScope N ps (defScope st)) (hn : ∀ a, (args a).length = ps.length) (hN : ps.length ≤ N.length) (ho : ∀ r, ∀ p ∈ outs r, p.1 < ps.length)
    (body : ∀ (cdv : Value) (A : Around) (outer : List Env) (s : Shared) (H : Hp) (E : XK) (I R : Hp) (u : Nat → V) (a : ι), Room k (A.deeper (envOfC qual (defScope st) s.heap.objs.size f cdv)) →
      MB (cxOf CX0 P w K mg base N qual (defScope st) f cdv A outer s H E).nox ⟨K, mg⟩ ⟨I, R⟩ I (S0 N (pinL u (args a) 0)) (defBody st) (M a) (KioU ⟨K, mg⟩ ⟨I, R⟩ u outs)) :
    FnOk P w K mg base CX0 (k + 1) f fd ps (spIO ⟨K, mg⟩ args M (fun _ => .im (Py.r ⟨K, mg⟩ ())) outs) := by
  refine F.ok Sc (fun vs H Q E ⟨I, R, Φ, a, r, s, _, _, hA, _⟩ => ?_) (fun cdv A outer s H vs Q E hr ⟨I, R, Φ, a, r, si, sR, tb, hA, hM, q⟩ => ?_)
  · rw [← hA.len, hn]
  · have hl : vs.length = ps.length := by rw [← hA.len, hn]
    refine ⟨_, (body cdv A outer s H E I R (fun i => vs.getD i .non) a hr).run r hM, I, ⟨⟨Same.refl _, SW.of sR, si, fun _ _ z => z⟩, Same.refl _, holdF_start (by rw [hn]; exact hN) si sR tb hA si⟩, fun I' H' F Φ' σ h => ⟨q .non I' H' F Φ' (post_u (fun p hp => by rw [hl]; exact ho r p hp) h), q .non I' H' F Φ' (post_u (fun p hp => by rw [hl]; exact ho r p hp) h)⟩⟩
end
/-- the slots of what was handed in, at an end -/
inductive Outs (u : Nat → V) (S : SL) : List (Nat × OR) → Prop
  | nil : Outs u S []
  | cons {i : Nat} {o : OR} {l : List (Nat × OR)} (h : S[i]? = some (some (.ow (oP (u i) o)))) (t : Outs u S l) : Outs u S ((i, o) :: l)
theorem Outs.get {u : Nat → V} {S : SL} : ∀ {l : List (Nat × OR)}, Outs u S l → ∀ p ∈ l, S[p.1]? = some (some (.ow (oP (u p.1) p.2)))
  | _, .nil, p, h => by cases h
  | _, .cons h t, p, hp => by
    rcases List.mem_cons.mp hp with z | z
    · subst z; exact h
    · exact t.get p z
section
variable {X : Cx} {g : Gb} {B : Bs} {J : Hp} {S : SL} {e e1 e2 e3 : Expr} {es : List Expr} {pos pos' p apos cpos : Pos} {i : Nat} {o ι ρ β : Type} {K : KT o} {rest : List Stmt} {u : Nat → V} {outs : β → List (Nat × OR)} {k : β → RK}
theorem post_at {I I' H H' F : Hp} {v : V} {l : List (Nat × OR)} {r : RK} {σ : L2.St} (x : Ext B.I B.H I H) (h : Hold g B S σ I H) (ho : Outs u S l) (x2 : Ext I H I' H') (f1 : ∀ a, F a ≠ none → H a = none ∧ I' a = none) (f2 : Same F H') (hv : RK.inS g r B.H v I' F) : ∃ Φ', Post g B.I B.H r l (fun i => some (u i)) v I' H' F Φ' := by
  obtain ⟨Φ, h⟩ := h
  have h2 := h.ext x2
  have x02 := x.trans x2
  refine ⟨Φ, x02.i, x02.s, x02.h, h2.tb.t, x02.n, fun b hb => ⟨h.base.free (f1 b hb).1, (f1 b hb).2⟩, f2, hv, fun p hp => ?_, h2.fr, h2.dj, fun i a ha => ?_⟩
  · obtain ⟨v, e1, q⟩ := h2.at_ p.1 _ (ho.get p hp)
    obtain ⟨q1, q2⟩ := q
    exact ⟨u p.1, rfl, q1 ▸ q2⟩
  · cases q : F a with
    | none => rfl
    | some y => exact absurd (f1 a (ne_of_some q)).1 ((h.ne ha).1)
/-- the end of a def that hands back nothing -/
theorem mb_endU {b : β} (ho : Outs u S (outs b)) : MB X g B J S [] (some b) (KioU g B u outs) := by
  refine ⟨fun r q => ?_⟩
  cases q
  refine pss_imp pss_nil fun D σ H ⟨I, ok, kk⟩ => ?_
  obtain ⟨Φ', hp⟩ := post_at (F := fun _ => none) (r := .im (Py.r g ())) (v := .non) ok.x ok.h ho (Ext.refl ok.h.sub) (fun a z => absurd rfl z) (fun _ _ z => by cases z) rfl
  exact (kk I H (fun _ => none) Φ' σ hp).1
end
/-! a place in what was handed in -/
section
variable {X : Cx} {g : Gb} {B : Bs} {J : Hp} {S : SL} {e e1 e2 e3 : Expr} {es : List Expr} {pos pos' p apos cpos : Pos} {i : Nat} {o ι ρ β : Type} {K : KT o} {rest : List Stmt}
theorem foc_pin {v0 : V} {o1 : OR} {I F : Hp} {v : V} (h : (oP v0 o1).p I F v) : FocAt o1 (fun o' => oP v0 o') I F v v := ⟨F, Same.refl _, h.2, fun o' I' F1' _ _ h' => ⟨h.1, by rw [rp_self]; exact h'⟩⟩
theorem mp_pin (i : Nat) {x : Str} {v0 : V} {o1 : OR} (hS : S[i]? = some (some (.ow (oP v0 o1))) := by rfl) (hN : X.N[i]? = some x := by rfl) (hv : Vis X.env.scope x := by first | exact Or.inl rfl | exact Or.inr (Or.inl rfl) | exact Or.inr (Or.inr rfl))
    (hd : (x == ("__debug__" : Str)) = false := by decide) (hcd : (x == ("__classdict__" : Str)) = false := by decide) : MP X g B S i (.Name x pos) (some ()) (fun _ => o1) (fun _ o' => oP v0 o') := by
  refine ⟨fun _ _ => pe_imp (pe_var hN hv hd hcd) fun σ H Q ⟨I, Φ, h, q⟩ => ?_⟩
  obtain ⟨v, e1, h1⟩ := h.at_ i _ hS
  exact ⟨v, e1, q v I H (Ext.refl h.sub) ⟨v, e1, foc_pin h1⟩⟩
end
/-! an instance made -/
section
variable {X : Cx} {g : Gb} {B : Bs} {J : Hp} {S : SL} {e : Expr} {es : List Expr} {pos p : Pos} {ι β : Type} {args : ι → List RK} {M : ι → Option β} {outs : β → List (Nat × OR)} {m : Option β} {j kk : Nat} {f C : Addr} {fd : FuncData} {ps : List Str} {x : Str} {dvs : List V} {ds : List Value}
theorem make_use {I1 H1 : Hp} {vs : List V} {x dx C : Addr} {cn : Str} {outs : β → List (Nat × OR)} {or : β → OR} {a : ι} {r : β} {Q : V → Hp → Prop} {E : XK} (hC : g.mg cn = some (.ref C)) (s1 : Same I1 H1) (tb : TbI I1 H1) (hA : Args g (args a) vs I1 H1) (hM : M a = some r) (hx : H1 x = none) (hdx : H1 dx = none) (hne : dx ≠ x)
    (hout : outs r = [(0, or r)]) (harg : (args a).all RK.argy = true) (q : ∀ v I' H', Ext I1 H1 I' H' → RK.holds g (.ow (or r)) H1 v I' H' → Q v H') :
    spIO g (fun a => .ow (oC (wI g cn []) []) :: args a) M (fun _ => .im (Py.r g ())) outs (.ref x :: vs) (upd (upd H1 dx (.own x)) x (.ins C dx [])) (fun v H2 => v = .non ∧ Q (.ref x) H2) E := by
  have Rx : (upd H1 dx (.own x)) x = none := by rw [upd_ne (fun z => hne z.symm)]; exact hx
  have sR : Same H1 (upd H1 dx (.own x)) := same_new hdx
  have i_ne : ∀ a, I1 a ≠ none → a ≠ x ∧ a ≠ dx := fun a ha => by
    have h1 := same_ne s1 ha
    exact ⟨fun z => h1 (z ▸ hx), fun z => h1 (z ▸ hdx)⟩
  refine ⟨I1, upd H1 dx (.own x), fun n => if n = 0 then one1 x (.ins C dx []) else fun _ => none, a, r, fun b o e => ?_, same_new Rx, ⟨?_, fun p hp => ?_, tb.2⟩, ⟨by rw [List.length_cons, List.length_cons, Paired.length hA], fun n k v e1 e2 => ?_, fun n b o e => ?_, fun n1 n2 b e1 e2 => ?_⟩, hM, fun v I' H' F Φ' hp => ?_⟩
  · have := i_ne b (ne_of_some e)
    rw [upd_ne this.1, upd_ne this.2]
    exact s1 b o e
  · exact (SW.of (sR.trans (same_new Rx))).t tb.1
  · rw [upd_ne (fun z => tb.1.ne hp (by rw [z]; exact hdx))]
    exact tb.1.ne hp
  · cases n with
    | zero =>
      cases e1
      cases e2
      rw [if_pos rfl]
      refine ⟨x, _, [], rfl, one1_same, ⟨C, dx, hC, rfl, rfl⟩, rfl, fun _ _ => none, fun j o v z => by simp at z, fun _ _ _ z => (by cases z), fun _ => rfl, fun _ _ _ z => absurd rfl z⟩
    | succ n =>
      rw [if_neg (by omega)]
      obtain ⟨v', e3, q'⟩ := paired_get hA (i := n) (by simpa using e1)
      have e4 : vs[n]? = some v := by simpa using e2
      rw [e4] at e3
      cases e3
      have ha := List.all_eq_true.mp harg _ (List.mem_of_getElem? (show (args a)[n]? = some k by simpa using e1))
      cases k with
      | im p => exact q'
      | bw p =>
        obtain ⟨l, ws, z1, z2, z3⟩ := q'
        exact ⟨l, ws, z1, sR.seq z2, z3⟩
      | fr p => cases ha
      | rd p => cases ha
      | ow p => cases ha
  · by_cases hn : n = 0
    · rw [if_pos hn] at e
      obtain ⟨z1, z2⟩ := one1_some e
      subst z1 z2
      exact ⟨upd_same, s1.free hx, Rx⟩
    · rw [if_neg hn] at e; cases e
  · by_cases h1 : n1 = 0
    · by_cases h2 : n2 = 0
      · rw [h1, h2]
      · rw [if_neg h2] at e2; exact absurd rfl e2
    · rw [if_neg h1] at e1; exact absurd rfl e1
  · have hv : v = .non := hp.val
    refine ⟨hv, q (.ref x) I' H' ⟨hp.i, (SW.of sR).trans hp.h, hp.s, fun l n1 n2 => hp.n l (same_ne sR n1) n2⟩ ?_⟩
    obtain ⟨u, e1, e2⟩ := hp.out (0, or r) (by rw [hout]; exact List.mem_singleton.mpr rfl)
    cases e1
    exact ⟨Φ' 0, fun b hb => by
      cases z : Φ' 0 b with
      | none => exact absurd z hb
      | some o =>
        obtain ⟨_, z2, z3⟩ := hp.fr 0 b o z
        exact ⟨sR.free z3, z2⟩, fun b o z => (hp.fr 0 b o z).1, e2⟩
theorem me_make {or : β → OR} (F : FnOk X.prog X.w X.K X.mg X.base CX0 j f fd ps (spIO g (fun a => .ow (oC (wI g x []) []) :: args a) M (fun _ => .im (Py.r g ())) outs)) (hr : Room kk X.A) (hj : j + 1 ≤ kk) (Mk : Mk X.K C f) (hm : X.mg x = some (.ref C)) (hb : Binds X.K fd ps ds) (hd : Vals dvs ds)
    (ha : MA X g B S (e :: es) dvs args m M) (hout : ∀ r, outs r = [(0, or r)] := by intro _; rfl) (harg : ∀ a, (args a).all RK.argy = true := by intro _; rfl) (hmg : X.mg = g.mg := by rfl) (hg : Gl X x := by rfl) (hdb : (x == ("__debug__" : Str)) = false := by decide) (he : starEach (e :: es) X.env = (false, eval e X.env) :: starEach es X.env := by rfl) (hpl : (backTo pos (starEach es X.env)).any (·.1) = false := by rfl) :
    ME X g B S (.Call (.Name x p) (e :: es) [] pos) m (fun r => .ow (or r)) := by
  refine ⟨fun r q => ?_⟩
  refine pe_imp (pe_make Mk F (hr.mono hj) hg hm hb hd pass0 (ha.run r q) hdb he hpl) fun σ H Q ⟨I, hh, kc⟩ => ⟨I, hh, fun a vs I1 H1 hM x1 hA y dy hy hdy hne => ?_⟩
  exact make_use (by rw [← hmg]; exact hm) x1.s (hh.tb.ext x1).to hA hM hy hdy hne (hout r) (harg a) fun v I' H' x2 hv => kc v I' H' (x1.trans x2) (RK.back rfl x1.h hv)
theorem me_make0 {or : β → OR} (a : ι) (F : FnOk X.prog X.w X.K X.mg X.base CX0 j f fd ps (spIO g (fun a => .ow (oC (wI g x []) []) :: args a) M (fun _ => .im (Py.r g ())) outs)) (hr : Room kk X.A) (hj : j + 1 ≤ kk) (Mk : Mk X.K C f) (hm : X.mg x = some (.ref C)) (hb : Binds X.K fd ps ds) (hd : Vals dvs ds)
    (ha : ∀ I H, Args g (args a) dvs I H) (hout : ∀ r, outs r = [(0, or r)] := by intro _; rfl) (harg : ∀ a, (args a).all RK.argy = true := by intro _; rfl) (hmg : X.mg = g.mg := by rfl) (hg : Gl X x := by rfl) (hdb : (x == ("__debug__" : Str)) = false := by decide) :
    ME X g B S (.Call (.Name x p) [] [] pos) (M a) (fun r => .ow (or r)) := by
  refine ⟨fun r q => ?_⟩
  refine pe_imp (pe_make0 Mk F (hr.mono hj) hg hm hb hd pass0 hdb) fun σ H Q ⟨I, hh, kc⟩ => fun y dy hy hdy hne => ?_
  exact make_use (by rw [← hmg]; exact hm) hh.sub hh.tb.to (ha I H) q hy hdy hne (hout r) (harg a) fun v I' H' x2 hv => kc v I' H' x2 hv
/-- let go, of an expression -/
theorem me_frzO {α : Type} [Py α] {or : α → OR} {m : Option α} (z : ∀ a, Frz (or a) (Py.r g a)) (h : ME X g B S e m (fun a => .ow (or a))) : ME X g B S e m (KI g) := by
  refine ⟨fun a q => pe_imp (h.run a q) fun σ H Q ⟨I, hh, k⟩ => ⟨I, hh, fun v I' H' x hv => ?_⟩⟩
  obtain ⟨F, h1, h2, h3⟩ := hv
  have hd : ∀ b, F b ≠ none → I' b = none := fun b hb => (h1 b hb).2
  refine k v (Un I' F) H' ⟨x.i.trans (un_l hd), x.h, fun b ob eb => (un_some eb).elim (fun e => h2 _ _ e) fun e => x.s _ _ e.2, fun b n1 n2 => ?_⟩ (z a I' F v hd h3)
  cases e4 : F b with
  | none => rw [un_none e4]; exact x.n b n1 n2
  | some ob => exact absurd (h1 b (ne_of_some e4)).1 n1
theorem mb_frzO {α o : Type} [Py α] {K : KT o} (i : Nat) {a : α} {or : OR} {sts : List Stmt} {m : Option o} (z : Frz or (Py.r g a)) (hS : S[i]? = some (some (.ow or))) (hb : MB X g B J (S.set i (some (.im (Py.r g a)))) sts m K) : MB X g B J S sts m K := by
  refine ⟨fun r q => ?_⟩
  refine pss_imp (hb.run r q) fun D σ H ⟨I, ok, kk⟩ => ?_
  obtain ⟨I', ok'⟩ := frz_ok (i := i) z ok fun v F => ⟨_, hS, fun q => q⟩
  exact ⟨I', ok', kk⟩
end
end T
set_option Elab.async false
set_option linter.all false
set_option maxRecDepth 100000
namespace T
variable [TabsC]
open PySem PySem.Spec PyProof.Rows L2
/-! fields and methods of instances that stay -/
def FldR {δ β : Type} [Py δ] [Py β] (X : Cx) (g : Gb) (f : Str) (pr : δ → β) : Prop := ∀ d I v, (Py.r g d).p I v → ∃ a C dx fs u, v = .ref a ∧ I a = some (.ins C dx fs) ∧ Cls X.K C ∧ NoAttr X.K C f ∧ fs.lookup f = some u ∧ (Py.r g (pr d)).p I u
theorem rIns_fld {X : Cx} {g : Gb} {c f : Str} {names : List Str} {rs : List PR} {r : PR} {I : Hp} {v : V} (j : Nat) (hC : Cf X g c f) (h : (rIns g c names rs).p I v) (hr : rs[j]? = some r := by rfl) (hj : fidx names f = some j := by decide +kernel) :
    ∃ a C dx fs u, v = .ref a ∧ I a = some (.ins C dx fs) ∧ Cls X.K C ∧ NoAttr X.K C f ∧ fs.lookup f = some u ∧ r.p I u := by
  obtain ⟨l, C, dx, vs, rfl, h1, h2, h3, h4⟩ := h
  obtain ⟨C', d1, d2, d3⟩ := hC
  rw [h1] at d1
  cases d1
  obtain ⟨u, e1, e2⟩ := paired_get h4 hr
  exact ⟨l, _, dx, _, u, rfl, h2, d2, d3, by rw [lookup_zip hj h3]; exact e1, e2⟩
/-- the method name of the thing d -/
def MethR {δ ι β : Type} [Py δ] (X : Cx) (g : Gb) (name : Str) (kk : Nat) (d : δ) (args : ι → List RK) (M : ι → Option β) (k : β → RK) : Prop :=
  ∃ C f fd ps j, Cls X.K C ∧ Meth X.K C name f ∧ j ≤ kk ∧ FnOk X.prog X.w X.K X.mg X.base CX0 j f fd ps (spT g (fun p : ι => .im (Py.r g d) :: args p) M k) ∧ Binds X.K fd ps [] ∧ ∀ I v, (Py.r g d).p I v → ∃ a dx fs, v = .ref a ∧ I a = some (.ins C dx fs) ∧ fs.lookup name = none
theorem rIns_no {g : Gb} {c name : Str} {names : List Str} {rs : List PR} {C : Addr} (hC : g.mg c = some (.ref C)) (hn : fidx names name = none) (I : Hp) (v : V) (h : (rIns g c names rs).p I v) : ∃ a dx fs, v = .ref a ∧ I a = some (.ins C dx fs) ∧ fs.lookup name = none := by
  obtain ⟨l, C', dx, vs, rfl, h1, h2, h3, h4⟩ := h
  rw [h1] at hC
  cases hC
  exact ⟨l, dx, _, rfl, h2, lookup_zip_no hn⟩
theorem sp_self {P : Program} {w : World} {K : PySem.W.Frag} {mg : Str → Option Value} {base : Heap} {g : Gb} {j : Nat} {f : Addr} {fd : FuncData} {ps : List Str} {δ ι β : Type} [Py δ] {args : ι → List RK} {M : δ × ι → Option β} {k : β → RK} (d : δ)
    (F : FnOk P w K mg base CX0 j f fd ps (spT g (fun p : δ × ι => .im (Py.r g p.1) :: args p.2) M k)) : FnOk P w K mg base CX0 j f fd ps (spT g (fun p : ι => .im (Py.r g d) :: args p) (fun p => M (d, p)) k) :=
  F.imp fun vs H Q E ⟨I, a, r, s, tb, hA, hM, q⟩ => ⟨I, (d, a), r, s, tb, hA, hM, q⟩
section
variable {X : Cx} {g : Gb} {B : Bs} {J : Hp} {S : SL} {e e1 e2 e3 : Expr} {es : List Expr} {pos p apos : Pos} {α β γ δ ι β' : Type} [Py α] [Py β] [Py γ] [Py δ] {args : ι → List RK} {k : β' → RK} {kk : Nat} {name : Str}
theorem me_fld {m : Option δ} {f : Str} {pr : δ → β} (h : ME X g B S e m (KI g)) (hf : FldR X g f pr) (hb : attributeBase e f X.env (eval e X.env) = eval e X.env := by rfl) : ME X g B S (.Attribute e f pos) (m >>= fun d => some (pr d)) (KI g) := by
  refine ⟨fun r q => ?_⟩
  obtain ⟨d, q1, q2⟩ := bind_some q
  cases q2
  refine pe_imp (pe_fld (h.run d q1) hb) fun σ H Q ⟨I, hh, kk⟩ => ⟨I, hh, fun v I' H' x hv => ?_⟩
  obtain ⟨a, C, dx, fs, u, rfl, h1, h2, h3, h4, h5⟩ := hf d I' v hv
  exact ⟨a, C, dx, fs, u, rfl, x.s _ _ h1, h2, h3, h4, kk u I' H' x h5⟩
theorem me_meth {pl : Sem Bool} {m0 : Option δ} {m1 : δ → Option β'} {M : δ → ι → Option β'} (h0 : ME X g B S e1 m0 (KI g)) (hm : ∀ d, MethR X g name kk d args (M d) k) (hr : Room kk X.A) (ha : ∀ d, MA X g B S (e :: es) [] args (m1 d) (M d))
    (hbw : ∀ c, (k c).isB = false := by intro _; rfl) (hst : starEach (e :: es) X.env = (false, eval e X.env) :: starEach es X.env := by rfl) (hpl : (backTo pos (starEach es X.env)).any (·.1) = false := by rfl)
    (ht : eval (.Call (.Attribute e1 name apos) (e :: es) [] pos) X.env = (do
      let ov ← eval e1 X.env
      standAt apos.atName
      let (f, first) ← holding [ov] (getMethod ov name pl)
      callWith pos f first (backTo pos (starEach (e :: es) X.env)) (backToKw pos (keywordEach [] X.env))) := by rfl) :
    ME X g B S (.Call (.Attribute e1 name apos) (e :: es) [] pos) (m0 >>= m1) k := by
  refine ⟨fun r q => ?_⟩
  obtain ⟨d, q1, q2⟩ := bind_some q
  obtain ⟨C, f, fd, ps, j, c1, c2, c3, F, hb, hi⟩ := hm d
  refine pe_imp (pe_meth (pl := pl) (h0.run d q1) c1 c2 F (hr.mono c3) hb .nil pass0 ((ha d).run r q2) hst hpl ht) fun σ H Q ⟨I, hh, kc⟩ => ⟨I, hh, fun v I1 H1 x1 hv => ?_⟩
  obtain ⟨a, dx, fs, rfl, h1, h2⟩ := hi I1 v hv
  refine ⟨a, dx, fs, rfl, x1.s _ _ h1, h2, I1, hh.ext x1, fun b vs I2 H2 hM x2 hA => ?_⟩
  have hA' : Args g (RK.im (Py.r g d) :: args b) (.ref a :: (vs ++ [])) I2 H2 := .cons ((Py.r g d).mono x2.i hv) hA
  exact sp_use (args := fun p => RK.im (Py.r g d) :: args p) (a := b) x2.s (hh.tb.ext (x1.trans x2)).to hA' hM fun u I3 H3 x3 hu => kc u I3 H3 ((x1.trans x2).trans x3) (RK.back (hbw r) (x1.trans x2).h hu)
/-- a thing seen as one of a wider kind -/
theorem me_up {m : Option α} {f : α → β} (h : ME X g B S e m (KI g)) (hf : ∀ a, Py.r g (f a) = Py.r g a := by intro _; rfl) : ME X g B S e (m >>= fun a => some (f a)) (KI g) := by
  refine ⟨fun r q => ?_⟩
  obtain ⟨a, q1, q2⟩ := bind_some q
  cases q2
  refine pe_imp (h.run a q1) fun σ H Q ⟨I, hh, kk⟩ => ⟨I, hh, fun v I' H' x hv => kk v I' H' x ?_⟩
  show (Py.r g (f a)).p I' v
  rw [hf a]; exact hv
def pk2 (F1 F2 : Hp) : Nat → Hp
  | 0 => F1
  | 1 => F2
  | _ => fun _ => none
end
/-! an owned thing looked at, within an expression whose value holds no address -/
def Flat (k : RK) : Prop := ∃ r : PR, k = .im r ∧ ∀ I I' v, r.p I v → r.p I' v
section
variable {X : Cx} {g : Gb} {B : Bs} {J : Hp} {S : SL} {e : Expr} {α β' : Type} [Py α] {k : β' → RK}
theorem view_ok {i : Nat} {o : OR} {r : PR} {σ : L2.St} {I H : Hp} {Φ : Nat → Hp} (z : Frz o r) (h : HoldF g B S σ I H Φ) (hS : S[i]? = some (some (.ow o))) : Hold g B (S.set i (some (.im r))) σ (Un I (Φ i)) H := by
  obtain ⟨v, e1, q⟩ := h.at_ i _ hS
  have hd : ∀ a, Φ i a ≠ none → I a = none := fun a ha => (h.ne ha).2.1
  have sI : Same I (Un I (Φ i)) := un_l hd
  have hσ : σ.set i (some v) = σ := by
    apply List.ext_getElem?
    intro j
    by_cases hj : i = j
    · subst hj
      rw [List.getElem?_set_self (List.getElem?_eq_some_iff.mp e1).1, e1]
    · rw [List.getElem?_set_ne hj]
  refine ⟨putF Φ i (fun _ => none), ?_⟩
  have h2 : HoldF g B (S.set i (some (.im r))) (σ.set i (some v)) (Un I (Φ i)) H (putF Φ i (fun _ => none)) := by
    refine ⟨by rw [List.length_set, List.length_set, h.len], fun b ob eb => (un_some eb).elim (fun e => (h.fr i b ob e).1) fun e => h.sub _ _ e.2, h.base, h.tb.un (h.noT i), fun j k' e => ?_, fun j a ob e => ?_, fun j l a hj hl => ?_⟩
    · rcases set_some e with ⟨a, b, c⟩ | ⟨a, b⟩
      · subst a
        cases b
        exact ⟨v, List.getElem?_set_self (by rw [h.len]; exact c), z I (Φ i) v hd q⟩
      · obtain ⟨u, e2, q⟩ := h.at_ j k' b
        exact ⟨u, by rw [List.getElem?_set_ne a]; exact e2, by rw [putF_ne (fun z => a z.symm)]; exact RK.inS_mono sI q⟩
    · by_cases hji : j = i
      · rw [hji, putF_same] at e; cases e
      · rw [putF_ne hji] at e
        obtain ⟨f1, f2, f3⟩ := h.fr j a ob e
        refine ⟨f1, ?_, f3⟩
        rw [un_none]
        · exact f2
        · cases e4 : Φ i a with
          | none => rfl
          | some ou => exact absurd (h.dj j i a (ne_of_some e) (ne_of_some e4)) hji
    · by_cases hji : j = i
      · rw [hji, putF_same] at hj; exact absurd rfl hj
      · by_cases hli : l = i
        · rw [hli, putF_same] at hl; exact absurd rfl hl
        · rw [putF_ne hji] at hj
          rw [putF_ne hli] at hl
          exact h.dj j l a hj hl
  rw [hσ] at h2
  exact h2
theorem me_view {a : α} {o : OR} {m : Option β'} (i : Nat) (z : Frz o (Py.r g a)) (hS : S[i]? = some (some (.ow o))) (h : ME X g B (S.set i (some (.im (Py.r g a)))) e m k) (hf : ∀ r, Flat (k r)) : ME X g B S e m k := by
  refine ⟨fun r q => pe_imp (h.run r q) fun σ H Q ⟨I, ⟨Φ, hh⟩, kk⟩ => ⟨_, view_ok z hh hS, fun v I' H' x hv => ?_⟩⟩
  obtain ⟨pr, e1, e2⟩ := hf r
  refine kk v I H' ⟨Same.refl _, x.h, x.h.part hh.sub hh.tb.i, fun _ _ z => z⟩ ?_
  rw [e1] at hv ⊢
  exact e2 _ _ _ hv
theorem mt_view {a : α} {o : OR} {m : Option Bool} (i : Nat) (z : Frz o (Py.r g a)) (hS : S[i]? = some (some (.ow o))) (h : MT X g B (S.set i (some (.im (Py.r g a)))) e m) : MT X g B S e m := by
  refine ⟨fun r q => pt_imp (h.run r q) fun σ H Q ⟨I, ⟨Φ, hh⟩, kk⟩ => ⟨_, view_ok z hh hS, fun I' H' x => kk I H' ⟨Same.refl _, x.h, x.h.part hh.sub hh.tb.i, fun _ _ z => z⟩⟩⟩
/-- the same of a new list -/
theorem fr_ow {as : List α} {i : Nat} {σ : L2.St} {I H : Hp} (h : Hold g B S σ I H) (hS : S[i]? = some (some (.fr (rl g as)))) : Hold g B (S.set i (some (.ow (oF (rl g as))))) σ I H := by
  obtain ⟨Φ, h⟩ := h
  refine ⟨Φ, by rw [List.length_set]; exact h.len, h.sub, h.base, h.tb, fun j k' e => ?_, h.fr, h.dj⟩
  rcases set_some e with ⟨a, b, c⟩ | ⟨a, b⟩
  · subst a
    cases b
    obtain ⟨v, e1, q⟩ := h.at_ i _ hS
    exact ⟨v, e1, q⟩
  · exact h.at_ j k' b
theorem set_set' {S : SL} {i : Nat} {x y : Option RK} : (S.set i x).set i y = S.set i y := by rw [List.set_set]
theorem mt_viewF {as : List α} {m : Option Bool} (i : Nat) (hS : S[i]? = some (some (.fr (rl g as)))) (h : MT X g B (S.set i (some (.im (Py.r g as)))) e m) : MT X g B S e m := by
  have hlt : i < S.length := (List.getElem?_eq_some_iff.mp hS).1
  have h2 := mt_view (S := S.set i (some (.ow (oF (rl g as))))) i (frz_F (g := g) (as := as)) (List.getElem?_set_self hlt) (by rw [set_set']; exact h)
  exact ⟨fun r q => pt_imp (h2.run r q) fun σ H Q ⟨I, hh, kk⟩ => ⟨I, fr_ow hh hS, kk⟩⟩
end
end T
set_option Elab.async false
set_option linter.all false
set_option maxRecDepth 100000
namespace T
variable [TabsC]
open PySem PySem.Spec PyProof.Rows L2 ClX
/-! a def called that changes the thing of a slot -/
def Rest (H F : Hp) : Hp := fun a => match F a with
  | some _ => none
  | none => H a
theorem rest_some {H F : Hp} {a : Addr} {o : HO} (h : Rest H F a = some o) : F a = none ∧ H a = some o := by
  unfold Rest at h
  cases q : F a with
  | some u => rw [q] at h; cases h
  | none => rw [q] at h; exact ⟨rfl, h⟩
theorem rest_none {H F : Hp} {a : Addr} (h : F a ≠ none) : Rest H F a = none := by
  unfold Rest
  cases q : F a with
  | some u => rfl
  | none => exact absurd q h
theorem rest_of {H F : Hp} {a : Addr} (h : F a = none) : Rest H F a = H a := by unfold Rest; rw [h]
def RK.isIm : RK → Bool
  | .im _ => true
  | _ => false
def f0 (F : Hp) : Nat → Hp
  | 0 => F
  | _ => fun _ => none
section
variable {X : Cx} {g : Gb} {B : Bs} {J : Hp} {S : SL} {σ : L2.St} {I H : Hp} {Φ : Nat → Hp} {i : Nat} {k : RK} {v : V} {o0 op : OR}
theorem io_pre {ks : List RK} {vs : List V} (h : HoldF g B S σ I H Φ) (hv : o0.p I (Φ i) v) (hA : Args g ks vs I H) (him : ks.all RK.isIm = true) : Same (Rest H (Φ i)) H ∧ ArgsF g (.ow o0 :: ks) (v :: vs) I (Rest H (Φ i)) H (f0 (Φ i)) := by
  refine ⟨fun a o e => (rest_some e).2, by rw [List.length_cons, List.length_cons, Paired.length hA], fun n k u e1 e2 => ?_, fun n a o e => ?_, fun n1 n2 a e1 e2 => ?_⟩
  · match n, e1, e2 with
    | 0, e1, e2 =>
      cases e1
      cases e2
      exact hv
    | n + 1, e1, e2 =>
      obtain ⟨u', e3, q⟩ := paired_get hA (i := n) (by simpa using e1)
      have e4 : vs[n]? = some u := by simpa using e2
      rw [e4] at e3
      cases e3
      have ha := List.all_eq_true.mp him _ (List.mem_of_getElem? (show ks[n]? = some k by simpa using e1))
      cases k with
      | im p => exact q
      | fr p => cases ha
      | bw p => cases ha
      | rd p => cases ha
      | ow p => cases ha
  · match n, e with
    | 0, e =>
      obtain ⟨f1, f2, _⟩ := h.fr i a o e
      exact ⟨f1, f2, rest_none (ne_of_some e)⟩
    | n + 1, e => cases e
  · match n1, n2, e1, e2 with
    | 0, 0, _, _ => rfl
    | 0, n + 1, _, e2 => exact absurd rfl e2
    | n + 1, _, e1, _ => exact absurd rfl e1
theorem io_post {o' : OR} {vs : Nat → Option V} {w : V} {I' H' F : Hp} {Φ' : Nat → Hp} (x : Ext B.I B.H I H) (oj : Same J I) (h : HoldF g B S σ I H Φ) (e1 : σ[i]? = some (some v)) (hvs : vs 0 = some v) (hp : Post g I (Rest H (Φ i)) k [(0, o')] vs w I' H' F Φ') (pin : ∀ F', o'.p I' F' v → op.p I' F' v) :
    Ext B.I B.H I' H' ∧ Same J I' ∧ ∃ Φ2, HoldF g B (S.set i (some (.ow op))) σ I' H' Φ2 ∧ (∀ j a, F a ≠ none → Φ2 j a = none) := by
  have other : ∀ j a, j ≠ i → Φ j a ≠ none → Φ i a = none := fun j a hj ha => by
    cases q : Φ i a with
    | none => rfl
    | some o => exact absurd (h.dj j i a ha (ne_of_some q)) hj
  have off : ∀ a, B.H a ≠ none → Φ i a = none := fun a e => by
    cases q : Φ i a with
    | none => rfl
    | some y => exact absurd (h.fr i a y q).2.2 e
  have base : ∀ a, B.H a ≠ none → Rest H (Φ i) a ≠ none := fun a e => by
    rw [rest_of (off a e)]
    exact fun z => e (h.base.f a z)
  have sB : SW B.H H' := ⟨fun a o e => by
    rcases h.base.k a o e with z | z
    · exact hp.h.k a o (by rw [rest_of (off a (ne_of_some e))]; exact z)
    · exact .inr z, fun a e => by
    cases q : B.H a with
    | none => rfl
    | some o => exact absurd (hp.h.f a e) (base a (ne_of_some q)), fun _ => hp.tb⟩
  have x' : Ext B.I B.H I' H' := ⟨x.i.trans hp.i, sB, hp.s, fun l n1 n2 => by
    cases e : B.H l with
    | none => exact absurd e n1
    | some o => exact hp.n l (base l n1) (x.n l n1 n2)⟩
  obtain ⟨u, z1, z2⟩ := hp.out (0, o') (List.mem_singleton.mpr rfl)
  rw [hvs] at z1
  cases z1
  have hσ : σ.set i (some v) = σ := by
    apply List.ext_getElem?
    intro j
    by_cases hj : i = j
    · subst hj
      rw [List.getElem?_set_self (List.getElem?_eq_some_iff.mp e1).1, e1]
    · rw [List.getElem?_set_ne hj]
  have hR : ∀ j a, j ≠ i → Φ j a ≠ none → Rest H (Φ i) a ≠ none := fun j a hj ha => by
    rw [rest_of (other j a hj ha)]
    exact (h.ne ha).1
  refine ⟨x', oj.trans hp.i, putF Φ i (Φ' 0), ?_, fun j a ha => ?_⟩
  · have h2 : HoldF g B (S.set i (some (.ow op))) (σ.set i (some v)) I' H' (putF Φ i (Φ' 0)) := by
      refine ⟨by rw [List.length_set, List.length_set, h.len], hp.s, sB, ⟨hp.tb, h.tb.b, fun p hp' => hp.n _ (base _ (h.tb.b p hp')) (h.tb.i p hp')⟩, fun j k' e => ?_, fun j a o e => ?_, fun j l a hj hl => ?_⟩
      · rcases set_some e with ⟨a, b, c⟩ | ⟨a, b⟩
        · subst a
          cases b
          exact ⟨v, List.getElem?_set_self (by rw [h.len]; exact c), by rw [putF_same]; exact pin _ z2⟩
        · obtain ⟨u, e2, q⟩ := h.at_ j k' b
          exact ⟨u, by rw [List.getElem?_set_ne a]; exact e2, by rw [putF_ne (fun z => a z.symm)]; exact RK.inS_mono hp.i q⟩
      · by_cases hji : j = i
        · rw [hji, putF_same] at e
          obtain ⟨y1, y2, y3⟩ := hp.fr 0 a o e
          refine ⟨y1, y2, ?_⟩
          cases q : B.H a with
          | none => rfl
          | some y => exact absurd y3 (base a (ne_of_some q))
        · rw [putF_ne hji] at e
          obtain ⟨f1, f2, f3⟩ := h.fr j a o e
          have hr := hR j a hji (ne_of_some e)
          refine ⟨hp.h.at_ ?_ (fun p hp' z => by rw [← z, h.noT j p hp'] at e; cases e), hp.n a hr f2, f3⟩
          rw [rest_of (other j a hji (ne_of_some e))]; exact f1
      · have no : ∀ m, m ≠ i → Φ' 0 a ≠ none → Φ m a ≠ none → False := fun m hm f1 f2 => by
          cases q : Φ' 0 a with
          | none => exact f1 q
          | some y => exact hR m a hm f2 (hp.fr 0 a y q).2.2
        by_cases hji : j = i
        · by_cases hli : l = i
          · rw [hji, hli]
          · rw [hji, putF_same] at hj
            rw [putF_ne hli] at hl
            exact (no l hli hj hl).elim
        · by_cases hli : l = i
          · rw [hli, putF_same] at hl
            rw [putF_ne hji] at hj
            exact (no j hji hl hj).elim
          · rw [putF_ne hji] at hj
            rw [putF_ne hli] at hl
            exact h.dj j l a hj hl
    rw [hσ] at h2
    exact h2
  · by_cases hji : j = i
    · rw [hji, putF_same]
      cases q : Φ' 0 a with
      | none => rfl
      | some y => exact absurd (hp.dv 0 a (ne_of_some q)) ha
    · rw [putF_ne hji]
      cases q : Φ j a with
      | none => rfl
      | some y => exact absurd (hp.fF a ha).1 (hR j a hji (ne_of_some q))
end
/-! C.m(self, ..): a function read off a class of the program's own -/
def tClsFn (C : Addr) (sp : Sp) (dvs : List V) (E : XK) (ta : TE) (t : TA) : TE := fun σ H Q => ta σ H fun x H1 => x = .ref C ∧ t σ H1 fun vs H2 => sp (vs ++ dvs) H2 Q E
theorem pe_clsFn {X : Cx} {CX : CXT} {k : Nat} {C f : Addr} {fd : FuncData} {ps : List Str} {mc : Value} {sp : Sp} {E : XK} {dvs : List V} {ds : List Value} {o e : Expr} {es : List Expr} {m : Str} {pos apos : Pos} {ta : TE} {t : TA} {pl : Sem Bool} (he : PE X o ta) (r : CRead X.K C mc) (c : CVal X.K C mc m (.ref f) (.ref f)) (hk : PySem.W.keepIn X.K (.ref f) = true)
    (F : FnOk X.prog X.w X.K X.mg X.base CX k f fd ps sp) (hr : Room k X.A) (hb : Binds X.K fd ps ds) (hd : Vals dvs ds) (hx : Passes CX X E) (ha : PA X (e :: es) t)
    (hst : starEach (e :: es) X.env = (false, eval e X.env) :: starEach es X.env := by rfl) (hpl : (backTo pos (starEach es X.env)).any (·.1) = false := by rfl)
    (ht : eval (.Call (.Attribute o m apos) (e :: es) [] pos) X.env = (do
      let ov ← eval o X.env
      standAt apos.atName
      let (f, first) ← holding [ov] (getMethod ov m pl)
      callWith pos f first (backTo pos (starEach (e :: es) X.env)) (backToKw pos (keywordEach [] X.env))) := by rfl) :
    PE X (.Call (.Attribute o m apos) (e :: es) [] pos) (tClsFn C sp dvs E ta t) := by
  refine ⟨fun pins s σ H Q I h => ?_⟩
  refine PySem.W.methodCall_KW (pl := pl) (thn (he.run pins s σ H _ I h) fun u s1 ⟨x, H1, I1, rx, ex, q⟩ => ?_) ht
  subst ex
  obtain rfl : u = Value.ref C := rx
  refine PySem.W.method_cls I1.kIn r.ga (getcval_ok I1 r c fun s2 I2 => ?_)
  exact PySem.W.callWith_K (h₀ := X.base) I2.ok.mod.kin hk (thn (ha.run pos pins s2 σ H1 _ I2 q) fun us s3 ⟨vs, H2, I3, rv, q2⟩ => ⟨I3.kIn, run_fn F hr hb hd hx I3 rv q2⟩) hst hpl
section
variable {X : Cx} {g : Gb} {B : Bs} {J : Hp} {S : SL} {e : Expr} {es : List Expr} {pos p p2 apos cpos : Pos} {o ι β : Type} {K : KT o} {rest : List Stmt} {args : ι → List RK} {M : ι → Option β} {outs : β → List (Nat × OR)} {m : Option β} {j kk : Nat} {f C : Addr} {fd : FuncData} {ps : List Str} {x cn mn : Str} {mc : Value} {dvs : List V} {ds : List Value} {fn : β → Option o}
/-- C.m(x, ..) alone, x an owned slot -/
theorem mb_clsInit {pl : Sem Bool} {o0 : OR} {or : β → OR} {u0 : V} (i : Nat) (F : FnOk X.prog X.w X.K X.mg X.base CX0 j f fd ps (spIO g (fun a => .ow o0 :: args a) M (fun _ => .im (Py.r g ())) outs)) (hr : Room kk X.A) (hj : j ≤ kk) (hm : X.mg cn = some (.ref C)) (r : CRead X.K C mc) (c : CVal X.K C mc mn (.ref f) (.ref f)) (hk : PySem.W.keepIn X.K (.ref f) = true) (hb : Binds X.K fd ps ds) (hd : Vals dvs ds)
    (ha : MA X g B S es dvs args m M) (hrest : ∀ r, MB X g B J (S.set i (some (.ow (oP u0 (or r))))) rest (fn r) K) (hS : S[i]? = some (some (.ow (oP u0 o0))) := by rfl) (hN : X.N[i]? = some x := by rfl) (hv : Vis X.env.scope x := by first | exact Or.inl rfl | exact Or.inr (Or.inl rfl) | exact Or.inr (Or.inr rfl))
    (hout : ∀ r, outs r = [(0, or r)] := by intro _; rfl) (harg : ∀ a, (args a).all RK.isIm = true := by intro _; rfl) (hg : Gl X cn := by rfl) (hdb : (cn == ("__debug__" : Str)) = false := by decide)
    (hdx : (x == ("__debug__" : Str)) = false := by decide) (hcd : (x == ("__classdict__" : Str)) = false := by decide)
    (hst : starEach (.Name x p :: es) X.env = (false, eval (.Name x p) X.env) :: starEach es X.env := by rfl) (hpl : (backTo cpos (starEach es X.env)).any (·.1) = false := by rfl)
    (ht : eval (.Call (.Attribute (.Name cn p2) mn apos) (.Name x p :: es) [] cpos) X.env = (do
      let ov ← eval (.Name cn p2) X.env
      standAt apos.atName
      let (f, first) ← holding [ov] (getMethod ov mn pl)
      callWith cpos f first (backTo cpos (starEach (.Name x p :: es) X.env)) (backToKw cpos (keywordEach [] X.env))) := by rfl)
    (hs : swapsWith (.Call (.Attribute (.Name cn p2) mn apos) (.Name x p :: es) [] cpos) none pos.line X.env = pure false := by rfl) :
    MB X g B J S (.Expr (.Call (.Attribute (.Name cn p2) mn apos) (.Name x p :: es) [] cpos) pos :: rest) (m >>= fn) K := by
  refine ⟨fun r' q => ?_⟩
  obtain ⟨b, q1, q2⟩ := bind_some q
  refine pss_imp (pss_cons (ps_expr (pe_clsFn (pl := pl) (pe_glob (v := .ref C) hg hm rfl hdb) r c hk F (hr.mono hj) hb hd pass0 (pa_cons (pe_var hN hv hdx hcd) (ha.run b q1) hst) hst hpl ht) hs) ((hrest b).run r' q2)) fun D σ H ⟨I, ok, kk⟩ => ?_
  obtain ⟨x0, oj, Φ, hh⟩ := ok
  obtain ⟨v, e1, e2, e3⟩ := hh.at_ i _ hS
  refine ⟨rfl, v, e1, I, ⟨Φ, hh⟩, fun a vs I1 H1 hM x1 hA => ?_⟩
  have hh1 := hh.ext x1
  obtain ⟨sR, hAF⟩ := io_pre (i := i) (o0 := o0) (v := v) hh1 (OR.mono _ x1.i e3) hA (harg a)
  refine ⟨I1, Rest H1 (Φ i), f0 (Φ i), a, b, x1.s, sR, ⟨hh1.tb.t, fun p hp => ?_, hh1.tb.i⟩, hAF, hM, fun w I2 H2 F2 Φ2 hp => ?_⟩
  · rw [rest_of (hh1.noT i p hp)]
    exact hh1.tb.t.ne hp
  rw [hout b] at hp
  obtain ⟨y1, y2, Φ3, y3, _⟩ := io_post (op := oP u0 (or b)) (x0.trans x1) (oj.trans x1.i) hh1 e1 rfl hp (fun F' z => ⟨e2, z⟩)
  exact ⟨I2, ⟨y1, y2, Φ3, y3⟩, kk⟩
end
end T
set_option Elab.async false
set_option linter.all false
set_option maxRecDepth 100000
namespace T
variable [TabsC]
open PySem PySem.Spec PyProof.Rows L2 C8
theorem rIns_nz {g : Gb} {c : Str} {names : List Str} {rs : List PR} {I : Hp} {v : V} (h : (rIns g c names rs).p I v) : v ≠ .non := by
  obtain ⟨l, _, _, _, rfl, _⟩ := h
  exact fun z => by cases z
section
variable {X : Cx} {g : Gb} {B : Bs} {S : SL} {e : Expr} {pos p p2 : Pos} {δ : Type} [Py δ] {cn : Str} {C : Addr} {m : Option δ}
end
/-! lists changed by their methods -/
section
variable {X : Cx} {g : Gb} {B : Bs} {J : Hp} {S : SL} {e e1 e2 e3 tg : Expr} {es : List Expr} {pos pos' p apos cpos : Pos} {o ι : Type} {K : KT o} {rest : List Stmt} {α β : Type} [Py α] [Py β] {m : Option ι} {mk : ι → OR → OR} {i : Nat}
@[irreducible] def popO {α : Type} (xs : List α) : Option (List α) := if xs.isEmpty = true then none else some xs.dropLast
/-- place.insert(e1, e2) -/
@[irreducible] def insO {α : Type} (xs : List α) (n : Int) (x : α) : Option (List α) := if decide (0 ≤ n ∧ n < 1000000000 ∧ xs.length < sizeLine) = true then some (xs.take n.toNat ++ [x] ++ xs.drop n.toNat) else none
end
end T
set_option Elab.async false
set_option linter.all false
set_option maxRecDepth 100000
namespace T
variable [TabsC]
open PySem PySem.Spec PyProof.Rows L2
theorem MA.eqm {ι o : Type} {X : Cx} {g : Gb} {B : Bs} {S : SL} {es : List Expr} {dvs : List V} {args : ι → List RK} {m m' : Option o} {M : ι → Option o} (h : MA X g B S es dvs args m M) (e : m = m') : MA X g B S es dvs args m' M := e ▸ h
section
variable {o : Type} {X : Cx} {g : Gb} {B : Bs} {J : Hp} {S : SL} {sts : List Stmt} {m : Option o} {K : KT o}
end
end T
set_option Elab.async false
set_option linter.all false
set_option maxRecDepth 100000
/-! list(reversed(list)) -/
namespace RL
open PySem PySem.Spec PyProof.Rows RT
section
variable {prog : Program} {w : World} {A : Around} {E : Value → Shared → Prop} {s : Shared}
end
section
open L2
variable {X : Cx}
def tListRev (K : PySem.W.Frag) (te : TE) : TE := fun σ H Q => te σ H fun v H1 => ∃ (a : Addr) (xs : List V), v = .ref a ∧ SqL K H1 a xs ∧ ∀ q, H1 q = none → Q (.ref q) (upd H1 q (.lst xs.reverse))
end
end RL
namespace T
variable [TabsC]
open PySem PySem.Spec PyProof.Rows L2
end T
set_option Elab.async false
set_option linter.all false
set_option maxRecDepth 100000
namespace T
variable [TabsC]
open PySem PySem.Spec PyProof.Rows L2
/-! rows of parts of unlike types: lists and tuples -/
structure HU where
  deriving DecidableEq
structure HC (α β : Type) where
  h : α
  t : β
  deriving DecidableEq
structure HL (β : Type) where
  s : β
  deriving DecidableEq
structure HT (β : Type) where
  s : β
  deriving DecidableEq
class PyS (β : Type) where
  rs : Gb → β → List PR
instance : PyS HU := ⟨fun _ _ => []⟩
instance {α β : Type} [Py α] [PyS β] : PyS (HC α β) := ⟨fun g x => Py.r g x.h :: PyS.rs g x.t⟩
def rHL {β : Type} [PyS β] (g : Gb) (x : β) : PR where
  p := fun I v => ∃ l vs, v = .ref l ∧ SqL g.K I l vs ∧ vs.length ≤ sizeLine ∧ Paired (fun (r : PR) v => r.p I v) (PyS.rs g x) vs
  mono := fun s ⟨l, vs, e, h, z, q⟩ => ⟨l, vs, e, s.seq h, z, L2.Paired.mapP q fun r _ q => r.mono s q⟩
def rHT {β : Type} [PyS β] (g : Gb) (x : β) : PR where
  p := fun I v => ∃ l vs, v = .ref l ∧ SqT g.K I l vs ∧ Paired (fun (r : PR) v => r.p I v) (PyS.rs g x) vs
  mono := fun s ⟨l, vs, e, h, q⟩ => ⟨l, vs, e, seqT s h, L2.Paired.mapP q fun r _ q => r.mono s q⟩
instance {β : Type} [PyS β] : Py (HL β) := ⟨fun g x => rHL g x.s⟩
instance {β : Type} [PyS β] : Py (HT β) := ⟨fun g x => rHT g x.s⟩
instance {β : Type} [PyS β] : Nz (HL β) := ⟨fun h z => by obtain ⟨_, _, rfl, _⟩ := h; cases z⟩
instance {β : Type} [PyS β] : Nz (HT β) := ⟨fun h z => by obtain ⟨_, _, rfl, _⟩ := h; cases z⟩
instance {β : Type} [PyS β] : IsT (HL β) := ⟨"list", fun h => by obtain ⟨_, _, rfl, h, _⟩ := h; exact tyx_sq h⟩
instance {β : Type} [PyS β] : IsT (HT β) := ⟨"tuple", fun h => by obtain ⟨_, _, rfl, h, _⟩ := h; exact tyx_tq h⟩
/-! as data -/
open PySem.W in
class DatS (β : Type) [DecidableEq β] where
  ds : β → List PyData
  plain : ∀ b, PyData.plainAll (ds b) = true
  eqv : ∀ a b, PyData.eqvAll (ds a) (ds b) = decide (a = b)
  depth : Nat
  depth_le : ∀ b, PyData.depthAll (ds b) ≤ depth
open PySem.W in
instance : DatS HU where
  ds := fun _ => []
  plain := fun _ => rfl
  eqv := fun _ _ => rfl
  depth := 0
  depth_le := fun _ => Nat.le_refl _
open PySem.W in
instance {α β : Type} [DecidableEq α] [DecidableEq β] [Datum α] [DatS β] : DatS (HC α β) where
  ds := fun x => Datum.toD x.h :: DatS.ds x.t
  plain := fun x => by
    show (PyData.plain (Datum.toD x.h) && PyData.plainAll (DatS.ds x.t)) = true
    rw [Datum.plain, DatS.plain]; rfl
  eqv := fun a b => by
    obtain ⟨a0, a1⟩ := a
    obtain ⟨b0, b1⟩ := b
    show (PyData.eqv (Datum.toD a0) (Datum.toD b0) && PyData.eqvAll (DatS.ds a1) (DatS.ds b1)) = _
    rw [Datum.eqv, DatS.eqv, Bool.eq_iff_iff]
    simp
  depth := max (Datum.depth α) (DatS.depth β)
  depth_le := fun x => by
    show max (PyData.depth (Datum.toD x.h)) (PyData.depthAll (DatS.ds x.t)) ≤ _
    have h1 := Datum.depth_le x.h
    have h2 := DatS.depth_le x.t
    omega
open PySem.W in
instance {β : Type} [DecidableEq β] [DatS β] : Datum (HL β) where
  toD := fun x => .list (DatS.ds x.s)
  plain := fun x => DatS.plain x.s
  eqv := fun a b => by
    obtain ⟨a⟩ := a
    obtain ⟨b⟩ := b
    show PyData.eqvAll (DatS.ds a) (DatS.ds b) = _
    rw [DatS.eqv, Bool.eq_iff_iff]
    simp
  depth := DatS.depth β + 1
  depth_le := fun x => by
    have h := DatS.depth_le x.s
    simp only [PyData.depth]
    omega
open PySem.W in
instance {β : Type} [DecidableEq β] [DatS β] : Datum (HT β) where
  toD := fun x => .tuple (DatS.ds x.s)
  plain := fun x => DatS.plain x.s
  eqv := fun a b => by
    obtain ⟨a⟩ := a
    obtain ⟨b⟩ := b
    show PyData.eqvAll (DatS.ds a) (DatS.ds b) = _
    rw [DatS.eqv, Bool.eq_iff_iff]
    simp
  depth := DatS.depth β + 1
  depth_le := fun x => by
    have h := DatS.depth_le x.s
    simp only [PyData.depth]
    omega
class PdS (β : Type) [PyS β] [DecidableEq β] extends DatS β where
  dps : ∀ {g : Gb} {b : β} {I : Hp} {vs : List V}, Paired (fun (r : PR) v => r.p I v) (PyS.rs g b) vs → DpAll g.K I vs (ds b)
instance : PdS HU where
  dps := fun h => by cases h; exact .nil
instance {α β : Type} [Py α] [PyS β] [DecidableEq α] [DecidableEq β] [Pd α] [PdS β] : PdS (HC α β) where
  dps := fun h => by
    cases h with
    | cons h t => exact .cons (Pd.dp h) (PdS.dps t)
instance {β : Type} [PyS β] [DecidableEq β] [PdS β] : Pd (HL β) where
  dp := fun h => by
    obtain ⟨l, vs, rfl, h1, _, h2⟩ := h
    exact .lst h1 (PdS.dps h2)
instance {β : Type} [PyS β] [DecidableEq β] [PdS β] : Pd (HT β) where
  dp := fun h => by
    obtain ⟨l, vs, rfl, h1, h2⟩ := h
    exact .tup h1 (PdS.dps h2)
instance {β : Type} [PyS β] [DecidableEq β] [PdS β] : NN (HL β) := ⟨fun _ => ⟨rfl, rfl⟩⟩
instance {β : Type} [PyS β] [DecidableEq β] [PdS β] : NN (HT β) := ⟨fun _ => ⟨rfl, rfl⟩⟩
/-! the parts told -/
structure MLH {β : Type} [PyS β] (X : Cx) (g : Gb) (B : Bs) (S : SL) (es : List Expr) (m : Option β) : Prop where
  run : ∀ b, m = some b → PA X es (fun σ H Q => ∃ I, Hold g B S σ I H ∧ ∀ vs I' H', Ext I H I' H' → Paired (fun (r : PR) v => r.p I' v) (PyS.rs g b) vs → Q vs H') ∧ (PyS.rs g b).length = es.length
section
variable {X : Cx} {g : Gb} {B : Bs} {J : Hp} {S : SL} {e e1 e2 e3 tg : Expr} {es : List Expr} {pos pos' p : Pos} {o : Type} {K : KT o} {rest body : List Stmt} {α β γ δ : Type} [Py α] [PyS β]
theorem mlh_nil : MLH X g B S [] (some HU.mk) := ⟨fun as q => by cases q; exact ⟨pa_imp pa_nil fun σ H Q ⟨I, hh, kk⟩ => kk [] I H (Ext.refl hh.sub) .nil, rfl⟩⟩
theorem mlh_cons {m1 : Option α} {m2 : Option β} (h : ME X g B S e m1 (KI g)) (t : MLH X g B S es m2) (hs : starEach (e :: es) X.env = (false, eval e X.env) :: starEach es X.env := by rfl) : MLH X g B S (e :: es) (m1 >>= fun a => m2 >>= fun b => some (HC.mk a b)) := by
  refine ⟨fun as q => ?_⟩
  obtain ⟨a, q1, q⟩ := bind_some q
  obtain ⟨as', q2, q3⟩ := bind_some q
  cases q3
  obtain ⟨ht, hl⟩ := t.run as' q2
  refine ⟨pa_imp (pa_cons (h.run a q1) ht hs) fun σ H Q ⟨I, hh, kk⟩ => ⟨I, hh, fun v I1 H1 x1 hv => ⟨I1, hh.ext x1, fun vs I2 H2 x2 hvs => ?_⟩⟩, by
    show (Py.r g a :: PyS.rs g as').length = _
    rw [List.length_cons, List.length_cons, hl]⟩
  exact kk (v :: vs) I2 H2 (x1.trans x2) (.cons ((Py.r g a).mono x2.i hv) hvs)
theorem me_ht {m : Option β} {n : Nat} (h : MLH X g B S es m) (hz : decide (es.length ≤ 1000) = true := by decide) (hK : X.K = g.K := by rfl) : ME X g B S (.Tuple es n pos) (m >>= fun b => some (HT.mk b)) (KI g) := by
  refine ⟨fun as q => ?_⟩
  obtain ⟨b, q1, q2⟩ := bind_some q
  cases q2
  obtain ⟨ha, hl⟩ := h.run b q1
  refine pe_imp (pe_tup ha) fun σ H Q ⟨I, hh, kk⟩ => ⟨I, hh, fun vs I1 H1 x1 hp => ?_⟩
  have hz' : vs.length ≤ sizeLine := by rw [← Paired.length hp, hl]; exact Nat.le_trans (of_decide_eq_true hz) (by decide)
  refine ⟨hz', fun l hl => ?_⟩
  have hI := x1.s.free hl
  have sI : Same I1 (upd I1 l (.tup vs)) := same_new hI
  refine kk _ (upd I1 l (.tup vs)) _ (x1.trans ⟨sI, SW.of (same_new hl), fun a o e => ?_, fun a n1 n2 => ?_⟩) ⟨l, vs, rfl, SqT.of upd_same, L2.Paired.mapP hp fun r _ q => r.mono sI q⟩
  · by_cases ha : a = l
    · subst ha; rw [upd_same] at e ⊢; exact e
    · rw [upd_ne ha] at e ⊢; exact x1.s _ _ e
  · rw [upd_ne (fun z => n1 (by rw [z]; exact hl))]; exact n2
end
/-! owned parts told: each brings a fragment -/
def Owns (os : List OR) (vs : List V) (H I' H' : Hp) : Prop := os.length = vs.length ∧ ∃ Ψ : Nat → Hp, (∀ (j : Nat) (o : OR) (v : V), os[j]? = some o → vs[j]? = some v → o.p I' (Ψ j) v) ∧ (∀ j, Same (Ψ j) H') ∧ (∀ j a, Ψ j a ≠ none → H a = none ∧ I' a = none) ∧ (∀ i j a, Ψ i a ≠ none → Ψ j a ≠ none → i = j)
structure MLO {γ : Type} (X : Cx) (g : Gb) (B : Bs) (S : SL) (es : List Expr) (m : Option γ) (ks : γ → List OR) : Prop where
  run : ∀ c, m = some c → PA X es (fun σ H Q => ∃ I, Hold g B S σ I H ∧ ∀ vs I' H', Ext I H I' H' → Owns (ks c) vs H I' H' → Q vs H') ∧ (ks c).length = es.length
def shF (F : Hp) (Ψ : Nat → Hp) : Nat → Hp
  | 0 => F
  | n + 1 => Ψ n
open Classical in
/-- the fragments together, and a root -/
noncomputable def rootF (Ψ : Nat → Hp) (H : Hp) (l : Addr) (ob : HO) : Hp := fun a => if a = l then some ob else if ∃ j, Ψ j a ≠ none then H a else none
theorem rootF_root {Ψ : Nat → Hp} {H : Hp} {l : Addr} {ob : HO} : rootF Ψ H l ob l = some ob := by unfold rootF; rw [if_pos rfl]
theorem rootF_in {Ψ : Nat → Hp} {H : Hp} {l a : Addr} {ob : HO} {j : Nat} (h : a ≠ l) (hj : Ψ j a ≠ none) : rootF Ψ H l ob a = H a := by
  unfold rootF
  rw [if_neg h, if_pos ⟨j, hj⟩]
theorem rootF_ne {Ψ : Nat → Hp} {H : Hp} {l a : Addr} {ob : HO} (h : rootF Ψ H l ob a ≠ none) : a = l ∨ (a ≠ l ∧ ∃ j, Ψ j a ≠ none) := by
  by_cases e : a = l
  · exact .inl e
  · by_cases q : ∃ j, Ψ j a ≠ none
    · exact .inr ⟨e, q⟩
    · unfold rootF at h
      rw [if_neg e, if_neg q] at h
      exact absurd rfl h
section
variable {X : Cx} {g : Gb} {B : Bs} {J : Hp} {S : SL} {e e1 e2 e3 tg : Expr} {es : List Expr} {pos pos' p : Pos} {α' γ : Type}
end
section
variable {X : Cx} {g : Gb} {B : Bs} {S : SL} {es : List Expr} {α β γ δ : Type}
theorem MLH.p1 [PyS δ] {a : α} {f : α → Option δ} {r : Option δ} (h : MLH X g B S es (some a >>= f)) (q : f a = r := by exact rfl) : MLH X g B S es r := q ▸ h
theorem MLH.p2 [PyS δ] {m : Option α} {b : β} {f : α → β → Option δ} {r : Option δ} (h : MLH X g B S es (m >>= fun a => some b >>= f a)) (q : (m >>= fun a => f a b) = r := by exact rfl) : MLH X g B S es r := q ▸ h
theorem MLO.p1 {ks : δ → List OR} {a : α} {f : α → Option δ} {r : Option δ} (h : MLO X g B S es (some a >>= f) ks) (q : f a = r := by exact rfl) : MLO X g B S es r ks := q ▸ h
theorem MLO.p2 {ks : δ → List OR} {m : Option α} {b : β} {f : α → β → Option δ} {r : Option δ} (h : MLO X g B S es (m >>= fun a => some b >>= f a) ks) (q : (m >>= fun a => f a b) = r := by exact rfl) : MLO X g B S es r ks := q ▸ h
end
end T
set_option Elab.async false
set_option linter.all false
set_option maxRecDepth 100000
/-! sorted(range(len(xs)), key=lambda x: (.., ..)): the lambda made, called for each place -/
namespace LK
open PySem PySem.Spec PyProof.Rows L2 LamX NdefX T
variable [TabsC]
section
variable {X : Cx} {pins : List (Addr × Obj)} {σ : L2.St} {H : Hp} {s : Shared}
end
section
variable {prog : Program} {w : World} {A : Around} {E : Value → Shared → Prop} {s : Shared}
open PySem.W PySem.Calls
def isInt : Value → Int → Prop := fun v i => ∃ t, v = Value.int i t
end
section
variable {X : Cx} {pins : List (Addr × Obj)} {σ : L2.St} {H : Hp} {s : Shared}
open PySem.W
end
/-- places, by falling value, of alike ones the lesser place first -/
def leK (xs : List Int) (i j : Int) : Bool := decide (xs.getD j.toNat 0 < xs.getD i.toNat 0 ∨ (xs.getD j.toNat 0 = xs.getD i.toNat 0 ∧ i ≤ j))
@[irreducible] def sortNegO (xs : List Int) : Option (List Int) := if decide (xs.length ≤ 1000) = true then some ((rng 0 xs.length).mergeSort (leK xs)) else none
def keyN (xs : List Int) : Int → PyData := fun i => .tuple [.int (-(xs.getD i.toNat 0)), .int i]
section
variable {X : Cx}
end
end LK
set_option Elab.async false
set_option linter.all false
set_option maxRecDepth 100000
/-! sorted(set(xs)), xs a list of ints -/
namespace LS
open PySem PySem.Spec PyProof.Rows L2 T
/-- a new set -/
def sO (w : World) : Obj := { cls := .type "set", dict := none, data := .set #[] 0 (.fresh 0 0 (!w.params.followText "set-order")) }
/-- the heap with it -/
abbrev sH (w : World) (h : Heap) : Heap := h.push (sO w)
section
variable {P : Program} {w : World} {A : Around} {E : Value → Shared → Prop} {s : Shared}
set_option maxHeartbeats 3200000 in
theorem set_of_list {l : Addr} {its : Array Value} (ns : List Int) {Q : Value → Shared → Prop} (hh : A.handled = none) (hl : s.heap.IsList l its) (hit : IntsAre its.toList ns) (hb : ns.length + 1 < scanBound)
    (h : ∀ (g : Heap) (tk c : Nat), SetR w g s.heap.objs.size (fun j => decide (j ∈ ns)) c → c ≤ ns.length → (∀ b o, s.heap.get? b = some o → g.get? b = some o) → Q (.ref s.heap.objs.size) { s with heap := g, toks := tk }) :
    wpAny (model P w) A (call (.type "set") [.ref l]) Q E s := by
  have hsz : its.size = ns.length := (Array.length_toList (xs := its)).symm.trans (IntsAre.length hit)
  obtain ⟨c, tl, hmro⟩ := F.called_set.mro
  have hmade := F.called_set.made; have hsub := F.called_set.sub
  have h1 := F.called_set.notType; have h2 := F.called_set.canCreate
  have hct := F.typeCall_set_1 (.ref l)
  refine wpAny_call (codeAny_of_tree (?_ : wpAny _ _ (callAny (.type "set") _) _ _ _))
  refine wpAny_pure ⟨Code.quiet_builtin _ (by decide +kernel), codeAny_builtin F.entry_type_call ?_⟩
  rw [Around.under_plain (weight_type_call_type "set" [.ref l] []) rfl]
  repeat (any_goals (first | assumption | wp_step))
  refine codeAny_mono (code_set_led1 (.ref l) (E := E) (Q₁ := fun ob s1 => ob = .ref s.heap.objs.size ∧ s1 = { s with heap := sH w s.heap }) ⟨rfl, rfl⟩) fun r s1 hr => ?_
  cases r with
  | error e => exact hr
  | ok fl =>
    cases fl with
    | next => exact hr.elim
    | brk => exact hr.elim
    | cont => exact hr.elim
    | ret ob =>
      obtain ⟨rfl, rfl⟩ := hr
      have hS : (sH w s.heap).get? s.heap.objs.size = some (sO w) := Heap.get?_push_size _ rfl
      have hT : Shared.TypeIs { s with heap := sH w s.heap } (.ref s.heap.objs.size) "set" := ⟨_, hS, rfl⟩
      have hli := F.called_set.init.lookup; have hbi := F.called_set.init.bind (.ref s.heap.objs.size)
      repeat (any_goals (first | assumption | wp_step))
      refine codeAny_mono (codeAny_call_builtin (R := wants (fun r s2 => r = .none ∧ ∃ g tk c, s2 = { s with heap := g, toks := tk } ∧ SetR w g s.heap.objs.size (fun j => decide (j ∈ ns)) c ∧ c ≤ ns.length ∧ (∀ b o, s.heap.get? b = some o → g.get? b = some o)) E) F.called_set.init.plain F.entry_set_init (check_set_init_1 hT ?_)) fun r2 s2 hr2 => ?_
      · obtain ⟨⟨oc, od, oda, osl⟩, hol, hcl, nl, hdl⟩ := hl
        simp only at hcl hdl
        subst hcl hdl
        have hol' : (sH w s.heap).get? l = some { cls := .type "list", dict := od, data := .seq its nl, slots := osl } := Heap.get?_push_of_some _ hol
        have hl1 : (sH w s.heap).IsList l its := ⟨_, hol', rfl, nl, rfl⟩
        have q1 := F.sub_list_set; have q2 := F.sub_list_frozenset
        have q3 : (Value.type "list" == Value.type "dict") = false := by decide
        unfold Builtin.«set.__init__» noKeywords Builtin.Frozenset.updateFrom
        generalize hPI : pyIter = PI
        wp_walk
        subst hPI
        refine wpAny_pyIter_list hl1 (wpAny_bind (wpAny_runValue ?_))
        have lS : l < s.heap.objs.size := Heap.lt_size hol
        have hh3 : A.in1.in1.in1.handled = none := by simp [hh]
        have nI : l ≠ (sH w s.heap).objs.size := by rw [Heap.size_push]; exact Nat.ne_of_lt (Nat.lt_succ_of_lt lS)
        have nF : s.heap.objs.size ∉ [(sH w s.heap).objs.size, l] := by
          rw [Heap.size_push]; simp only [List.mem_cons, List.mem_singleton, List.not_mem_nil, or_false, not_or]
          exact ⟨Nat.ne_of_lt (Nat.lt_succ_self _), Nat.ne_of_gt lS⟩
        have val : ∀ (i : Nat) (v : Value), its[i]? = some v → ∃ k t, ns[i]? = some k ∧ v = .int k t := fun i v hv => by
          have hi : i < ns.length := by rw [← hsz]; exact (Array.getElem?_eq_some_iff.mp hv).1
          obtain ⟨t, e⟩ := PyProof.Rows.IntsAre.int_at hit i v (by rw [Array.getElem?_toList]; exact hv)
          exact ⟨ns[i], t, List.getElem?_eq_getElem hi, by rw [e, List.getD_eq_getElem?_getD, List.getElem?_eq_getElem hi] <;> rfl⟩
        refine set_update_ints ((Walks.list hh3 _ l nI its).toS) s.heap.objs.size nF ns hsz hb val (its.size - 0) 0 _ (by omega) (Nat.zero_le _) ⟨⟨_, Heap.get?_push_size _ rfl, rfl, rfl⟩, hl1.push _⟩ ⟨0, Nat.le_refl 0, setR_new_at (Heap.get?_push_of_some _ hS)⟩ fun s3 c3 hm hc3 hS3 => ?_
        obtain ⟨g3, gs3, d3, tk3, os3⟩ := s3
        obtain rfl : gs3 = s.gens := hm.gens
        obtain rfl : d3 = s.drawn := hm.drawn
        obtain rfl : os3 = s.os := hm.os
        show wpAny _ _ _ _ _ _
        refine wpAny_pure (?_ : wpAny _ _ (ret Value.none) _ _ _)
        rw [hsz] at hc3
        refine wpAny_pure ⟨rfl, g3, tk3, c3, rfl, hS3, hc3, fun b o e => ?_⟩
        have b0 : b < s.heap.objs.size := Heap.lt_size e
        refine hm.heap b o ?_ (Heap.get?_push_of_some _ (Heap.get?_push_of_some _ e))
        simp only [List.mem_cons, List.mem_singleton, List.not_mem_nil, or_false, not_or]
        refine ⟨Nat.ne_of_lt b0, ?_⟩
        rw [Heap.size_push]
        exact Nat.ne_of_lt (Nat.lt_succ_of_lt b0)
      · cases r2 with
        | error e => exact hr2
        | ok f2 =>
          cases f2 with
          | next => exact hr2.elim
          | brk => exact hr2.elim
          | cont => exact hr2.elim
          | ret r =>
            obtain ⟨rfl, g, tk, c', rfl, hS', hc', hk'⟩ := hr2
            repeat (any_goals (first | assumption | wp_step))
            exact h _ _ _ hS' hc' hk'
end
/-- set(xs) as a value -/
def rSetL (K : PySem.W.Frag) (w : World) : List V → Hp → VK → Prop := fun xs H Q => ∃ (l : Addr) (ns : List Int), xs = [V.ref l] ∧ SqL K H l (ns.map V.int) ∧ ns.length < 64 ∧ ∀ (a : Addr) (c : Nat), H a = none → c < 64 → Q (.ref a) (upd H a (SetO w a (fun j => decide (j ∈ ns)) c))
theorem cr_setL {X : Cx} (hc : X.calm = true) : CallR X (.type "set") (rSetL X.K X.w) := by
  intro pins s σ H xs us Q I r h
  obtain ⟨l, ns, rfl, hl, hf, q⟩ := h
  rw [Vals.ref1 r]
  obtain ⟨its, rv, pl, hz⟩ := I.list hl
  have hn : H s.heap.objs.size = none := I.hok.fresh (Nat.le_refl _)
  refine set_of_list ns (I.ok.hd hc) pl.isList (by simpa using rv.ints) (by unfold scanBound; omega) fun g tk c R hcl k => ?_
  exact ⟨.ref s.heap.objs.size, upd H s.heap.objs.size (SetO X.w s.heap.objs.size (fun j => decide (j ∈ ns)) c), I.laid (t' := tk) k (Nat.le_refl _) (setO_new R), rfl, q _ c hn (by omega)⟩
end LS
namespace T
open PySem PySem.Spec PyProof.Rows L2
variable [TabsC]
def insS (a : Int) : List Int → List Int
  | [] => [a]
  | b :: bs => if a < b then a :: b :: bs else if a = b then b :: bs else b :: insS a bs
/-- the members, rising, each once -/
def sortS : List Int → List Int
  | [] => []
  | a :: as => insS a (sortS as)
theorem insS_mem {a x : Int} : ∀ {bs : List Int}, x ∈ insS a bs ↔ x = a ∨ x ∈ bs
  | [] => by simp [insS]
  | b :: bs => by
    unfold insS
    split
    · simp
    · split
      · rename_i h1 h2
        subst h2
        simp
      · rw [List.mem_cons, insS_mem, List.mem_cons]
        constructor
        · rintro (h | h | h)
          · exact .inr (.inl h)
          · exact .inl h
          · exact .inr (.inr h)
        · rintro (h | h | h)
          · exact .inr (.inl h)
          · exact .inl h
          · exact .inr (.inr h)
theorem insS_lt {a : Int} : ∀ {bs : List Int}, bs.Pairwise (· < ·) → (insS a bs).Pairwise (· < ·)
  | [], _ => by simp [insS]
  | b :: bs, h => by
    obtain ⟨h1, h2⟩ := List.pairwise_cons.mp h
    unfold insS
    split
    · rename_i hab
      refine List.pairwise_cons.mpr ⟨fun x hx => ?_, h⟩
      rcases List.mem_cons.mp hx with z | z
      · rw [z]; exact hab
      · have := h1 x z; omega
    · split
      · exact h
      · rename_i c1 c2
        refine List.pairwise_cons.mpr ⟨fun x hx => ?_, insS_lt h2⟩
        rcases insS_mem.mp hx with z | z
        · omega
        · exact h1 x z
theorem sortS_mem {x : Int} : ∀ {as : List Int}, x ∈ sortS as ↔ x ∈ as
  | [] => Iff.rfl
  | a :: as => by
    show x ∈ insS a (sortS as) ↔ _
    rw [insS_mem, sortS_mem, List.mem_cons]
theorem sortS_lt : ∀ as : List Int, (sortS as).Pairwise (· < ·)
  | [] => .nil
  | a :: as => insS_lt (sortS_lt as)
theorem lt_uniq : ∀ {as bs : List Int}, as.Pairwise (· < ·) → bs.Pairwise (· < ·) → (∀ x, x ∈ as ↔ x ∈ bs) → as = bs
  | [], [], _, _, _ => rfl
  | [], b :: bs, _, _, h => by have := (h b).mpr (List.mem_cons_self); cases this
  | a :: as, [], _, _, h => by have := (h a).mp (List.mem_cons_self); cases this
  | a :: as, b :: bs, h1, h2, h => by
    obtain ⟨p1, p2⟩ := List.pairwise_cons.mp h1
    obtain ⟨q1, q2⟩ := List.pairwise_cons.mp h2
    have hab : a = b := by
      rcases List.mem_cons.mp ((h a).mp List.mem_cons_self) with z | z
      · exact z
      · rcases List.mem_cons.mp ((h b).mpr List.mem_cons_self) with y | y
        · exact y.symm
        · have := p1 b y; have := q1 a z; omega
    subst hab
    rw [lt_uniq p2 q2 fun x => ⟨fun hx => ?_, fun hx => ?_⟩]
    · rcases List.mem_cons.mp ((h x).mp (List.mem_cons_of_mem _ hx)) with z | z
      · have := p1 x hx; omega
      · exact z
    · rcases List.mem_cons.mp ((h x).mpr (List.mem_cons_of_mem _ hx)) with z | z
      · have := q1 x hx; omega
      · exact z
@[irreducible] def sortSetO (xs : List Int) : Option (List Int) := if decide (xs.length < 64) = true then some (sortS xs) else none
section
variable {X : Cx} {g : Gb} {B : Bs} {S : SL} {e : Expr} {p p2 pos pos2 : Pos} {m : Option (List Int)} {k : List Int → RK}
/-- sorted(set(e)) -/
theorem me_sortSet (hm : X.mg "sorted" = none) (hm2 : X.mg "set" = none) (h : ME X g B S e m k) (r : LR g k := by first | exact lr_im | exact lr_fr | exact lr_rd) (hc : X.calm = true := by rfl) (hg : Gl X "sorted" := by rfl) (hg2 : Gl X "set" := by rfl) (hK : X.K = g.K := by rfl)
    (he : starEach [.Call (.Name "set" p2) [e] [] pos2] X.env = (false, eval (.Call (.Name "set" p2) [e] [] pos2) X.env) :: starEach [] X.env := by rfl) (he2 : starEach [e] X.env = (false, eval e X.env) :: starEach [] X.env := by rfl) :
    ME X g B S (.Call (.Name "sorted" p) [.Call (.Name "set" p2) [e] [] pos2] [] pos) (m >>= sortSetO) (fun xs => .fr (rl g xs)) := by
  refine ⟨fun out q => ?_⟩
  obtain ⟨xs, q1, q2⟩ := bind_some q
  unfold sortSetO at q2
  by_cases hz : decide (xs.length < 64) = true
  · rw [if_pos hz] at q2
    cases q2
    have hz := of_decide_eq_true hz
    refine pe_imp (pe_callB (cr_sortedSet hc) hg hm (by decide +kernel) (pa_cons (pe_callTy (LS.cr_setL hc) hg2 hm2 (by decide +kernel) (pa_cons (h.run xs q1) pa_nil he2) (he := he2)) pa_nil he) (he := he)) fun σ H Q ⟨I, hh, kk⟩ => ⟨I, hh, fun v I' H' x hv => ?_⟩
    obtain ⟨l, vs, rfl, h1, h2⟩ := r xs _ _ _ _ x.s hv
    have e1 := vals_ints h2.2
    subst e1
    refine ⟨l, xs, rfl, by rw [hK]; exact h1, hz, fun a c ha hcl => ⟨a, _, c, rfl, upd_same, hcl, fun ns pa n1 n2 n3 n4 => ?_⟩⟩
    have e3 : ns = sortS xs := lt_uniq n1 (sortS_lt xs) fun z => by rw [n2, decide_eq_true_eq, sortS_mem]
    subst e3
    have x2 : Ext I' H' I' (upd H' a (SetO X.w a (fun j => decide (j ∈ xs)) c)) := ⟨Same.refl _, SW.of (same_new ha), x.s.trans (same_new ha), fun _ _ z => z⟩
    exact new_fr x2.s ⟨by rw [n3, sizeLine_eq]; omega, paired_ints _⟩ (fun u I2 H2 x3 hu => kk u I2 H2 ((x.trans x2).trans x3) (RK.back rfl (x.trans x2).h hu)) n4
  · rw [if_neg hz] at q2; cases q2
end
end T
set_option Elab.async false
set_option linter.all false
set_option maxRecDepth 100000
namespace T
open PySem PySem.Spec PyProof.Rows L2 C8
variable [TabsC]
/-! what is not reached -/
section
variable {X : Cx} {g : Gb} {B : Bs} {J : Hp} {S : SL} {e : Expr} {es : List Expr} {sts : List Stmt} {o α' : Type} {K : KT o} {k : α' → RK}
theorem mb_dead : MB X g B J S sts (none : Option o) K := ⟨fun a q => by cases q⟩
end
/-! isinstance, generally -/
section
variable {X : Cx} {g : Gb} {B : Bs} {J : Hp} {S : SL} {e e1 e2 : Expr} {pos pos' p p2 p3 tpos : Pos} {α' δ β : Type} [Py δ] [Py β] {m1 : Option α'} {k1 : α' → RK}
def TG (g : Gb) (k : α' → RK) (tf : α' → Value) : Prop := ∀ a H0 v I H, Same I H → RK.holds g (k a) H0 v I H → TyX g.K H v (tf a)
theorem me_isiG {x : Str} {Ty : String} {tf : α' → Value} {bf : α' → Bool} (hm : X.mg "isinstance" = none) (hm2 : X.mg x = none) (h : ME X g B S e m1 k1) (hT : TG g k1 tf) (hk : ∀ a, PySem.W.kitOne X.K (tf a) (.type Ty) = some (bf a)) (hv : bootBuiltins x = some (.type Ty)) (hg : Gl X "isinstance" := by rfl) (hg2 : Gl X x := by rfl) (hK : X.K = g.K := by rfl) (hn : x ≠ "__name__" := by decide) (hd : (x == ("__debug__" : Str)) = false := by decide)
    (he : starEach [e, .Name x p2] X.env = (false, eval e X.env) :: starEach [.Name x p2] X.env := by rfl) (he2 : starEach [.Name x p2] X.env = (false, eval (.Name x p2) X.env) :: starEach [] X.env := by rfl) (hpl : (backTo pos (starEach [.Name x p2] X.env)).any (·.1) = false := by rfl) :
    ME X g B S (.Call (.Name "isinstance" p) [e, .Name x p2] [] pos) (m1 >>= fun a => some (bf a)) (KI g) := by
  refine ⟨fun n q => ?_⟩
  obtain ⟨a, q1, q2⟩ := bind_some q
  cases q2
  refine pe_imp (pe_callB call_isi hg hm (by decide +kernel) (pa_cons (h.run a q1) (pa_cons (pe_bltn (v := .ty Ty) hg2 hm2 hv rfl hn hd) pa_nil he2) he) (he := he) (hpl := hpl)) fun σ H Q ⟨I, hh, kk⟩ => ⟨I, hh, fun v I' H' xx hv => ?_⟩
  exact ⟨v, .ty Ty, tf a, .type Ty, bf a, rfl, .ty Ty, by rw [hK]; exact hT a _ _ _ _ xx.s hv, hk a, kk _ I' H' xx rfl⟩
theorem me_isiG2 {x y : Str} {Tx Ty : String} {tf : α' → Value} {b1 b2 : α' → Bool} {n : Nat} (hm : X.mg "isinstance" = none) (hmx : X.mg x = none) (hmy : X.mg y = none) (h : ME X g B S e m1 k1) (hT : TG g k1 tf) (hk1 : ∀ a, PySem.W.kitOne X.K (tf a) (.type Tx) = some (b1 a)) (hk2 : ∀ a, PySem.W.kitOne X.K (tf a) (.type Ty) = some (b2 a)) (hvx : bootBuiltins x = some (.type Tx)) (hvy : bootBuiltins y = some (.type Ty)) (hg : Gl X "isinstance" := by rfl) (hgx : Gl X x := by rfl) (hgy : Gl X y := by rfl) (hK : X.K = g.K := by rfl)
    (hnx : x ≠ "__name__" := by decide) (hny : y ≠ "__name__" := by decide) (hdx : (x == ("__debug__" : Str)) = false := by decide) (hdy : (y == ("__debug__" : Str)) = false := by decide)
    (he : starEach [e, .Tuple [.Name x p2, .Name y p3] n tpos] X.env = (false, eval e X.env) :: starEach [.Tuple [.Name x p2, .Name y p3] n tpos] X.env := by rfl) (he2 : starEach [.Tuple [.Name x p2, .Name y p3] n tpos] X.env = (false, eval (.Tuple [.Name x p2, .Name y p3] n tpos) X.env) :: starEach [] X.env := by rfl)
    (he3 : starEach [.Name x p2, .Name y p3] X.env = (false, eval (.Name x p2) X.env) :: starEach [.Name y p3] X.env := by rfl) (he4 : starEach [.Name y p3] X.env = (false, eval (.Name y p3) X.env) :: starEach [] X.env := by rfl) (hpl : (backTo pos (starEach [.Tuple [.Name x p2, .Name y p3] n tpos] X.env)).any (·.1) = false := by rfl) :
    ME X g B S (.Call (.Name "isinstance" p) [e, .Tuple [.Name x p2, .Name y p3] n tpos] [] pos) (m1 >>= fun a => some (b1 a || b2 a)) (KI g) := by
  refine ⟨fun n q => ?_⟩
  obtain ⟨a, q1, q2⟩ := bind_some q
  cases q2
  refine pe_imp (pe_callB call_isiT hg hm (by decide +kernel) (pa_cons (h.run a q1) (pa_cons (pe_tup (pa_cons (pe_bltn (v := .ty Tx) hgx hmx hvx rfl hnx hdx) (pa_cons (pe_bltn (v := .ty Ty) hgy hmy hvy rfl hny hdy) pa_nil he4) he3)) pa_nil he2) he) (he := he) (hpl := hpl)) fun σ H Q ⟨I, hh, kk⟩ => ⟨I, hh, fun v I' H' xx hv => ⟨by show 2 ≤ sizeLine; rw [sizeLine_eq]; omega, fun tp htp => ?_⟩⟩
  have x2 : Ext I' H' I' (upd H' tp (.tup [.ty Tx, .ty Ty])) := ⟨Same.refl _, SW.of (same_new htp), xx.s.trans (same_new htp), fun _ _ z => z⟩
  refine ⟨v, tp, [.ty Tx, .ty Ty], tf a, [.type Tx, .type Ty], (b1 a || b2 a), rfl, upd_same, .cons (.ty _) (.cons (.ty _) .nil), by rw [hK]; exact tyx_mono (same_new htp) (hT a _ _ _ _ xx.s hv), ?_, kk _ I' _ (xx.trans x2) rfl⟩
  refine kitAny_cons (hk1 a) (fun z => kitAny_cons (hk2 a) (fun z2 => ?_) fun z2 => ?_) fun z => by rw [z]; rfl
  · rw [z, z2]; rfl
  · rw [z, z2]; rfl
/-- things of a type, maybe None -/
def tyO {α : Type} (t : String) : Option α → Value
  | none => .type "NoneType"
  | some _ => .type t
end
/-! lists -/
section
variable {X : Cx} {g : Gb} {B : Bs} {J : Hp} {S : SL} {e e1 e2 : Expr} {es : List Expr} {pos p p2 p3 apos cpos : Pos} {o ι : Type} {K : KT o} {rest : List Stmt} {α β : Type} [Py α] [Py β] {m : Option ι} {mk : ι → OR → OR} {i : Nat}
/-- xs.count(k), ints -/
theorem me_cnt {m : Option (List Int)} {m2 : Option Int} {k : List Int → RK} (h : ME X g B S e m k) (h2 : ME X g B S e2 m2 (KI g)) (r : LR g k := by first | exact lr_im | exact lr_fr | exact lr_rd) (hK : X.K = g.K := by rfl) (hb : ∀ c, (k c).isB = false := by intro _; rfl)
    (hst : starEach [e2] X.env = (false, eval e2 X.env) :: starEach [] X.env := by rfl) (hbase : attributeBase e "count" X.env (eval e X.env) = eval e X.env := by rfl)
    (hfew : ((backTo cpos (starEach [e2] X.env)).all (fun x => !x.1) && (backToKw cpos (keywordEach [] X.env)).all (fun x => x.1.isSome) && decide ([e2].length + ([] : List Keyword).length + (if ([] : List Keyword).isEmpty then 0 else 1) < 30)) = true := by rfl)
    (hline : (apos.endLine == cpos.line) = true := by rfl) (hplain : (backTo cpos (starEach [] X.env)).any (·.1) = false := by rfl) :
    ME X g B S (.Call (.Attribute e "count" apos) [e2] [] cpos) (m >>= fun xs => m2 >>= fun n => some ((xs.count n : Nat) : Int)) (KI g) := by
  refine ⟨fun out q => ?_⟩
  obtain ⟨xs, q1, q⟩ := bind_some q
  obtain ⟨n, q2, q3⟩ := bind_some q
  cases q3
  refine pe_imp (pe_bm PySem.F.plainAttrs_list PySem.F.slot_list_count PySem.F.type_list_count mt_lcount (h.run xs q1) (pa_cons (h2.run n q2) pa_nil hst) hbase hfew hline hst hplain) fun σ H Q ⟨I, hh, kk⟩ => ⟨I, hh, fun v I' H' x hv => ?_⟩
  obtain ⟨l, vs, rfl, h1, h3⟩ := r xs _ _ _ _ x.s hv
  have e1 := vals_ints h3.2
  subst e1
  refine ⟨.inl ⟨rfl, _, by rw [hK]; exact h1⟩, I', hh.ext x, fun w I2 H2 x2 hw => ⟨l, xs, n, rfl, by cases hw; rfl, by rw [hK]; exact x2.h.seq h1, kk _ I2 H2 (x.trans x2) rfl⟩⟩
/-- the list without the first k -/
@[irreducible] def remO (xs : List Int) (k : Int) : Option (List Int) := if k ∈ xs then some (xs.erase k) else none
end
end T
set_option Elab.async false
set_option linter.all false
set_option maxRecDepth 100000
namespace T
open PySem PySem.Spec PyProof.Rows L2
/-! a def whose code object is known: one that makes a lambda -/
section
variable [TabsC] {P : Program} {w : World} {K : PySem.W.Frag} {mg : Str → Option Value} {base : Heap} {ι β : Type} {args : ι → List RK} {M : ι → Option β} {kd : β → RK}
structure FunC (K : PySem.W.Frag) (x qual : Str) (st : Stmt) (f : Addr) (fd : FuncData) (cdv : Value) : Prop where
  ex : ∃ (oc : Value) (od : Option Addr) (dV kV doc pm : Value) (an : Option Addr) (ct : Value) (osl : Array (Option Value)),
    fd = PySem.W.fnOf x qual (defArgs st) (defBody st) (defScope st) dV kV doc pm an cdv ct ∧ K.lookup f = some ⟨oc, od, .func fd, osl⟩ ∧ PySem.W.codeIn K cdv qual = true
  kp : PySem.W.keepIn K (.ref f) = true
end
end T
set_option Elab.async false
set_option linter.all false
set_option maxRecDepth 100000
namespace T
variable [TabsC]
open PySem PySem.Spec PyProof.Rows L2
/-! a def that hands back a pair whose first part is an own list of a slot -/
section
variable {g : Gb}
theorem own_pair {o1 o2 : OR} {Hb H1 I1 I2 H2 F1 F2 : Hp} {v w : V} {l : Addr} (b1 : SW Hb H1) (f1 : ∀ c, F1 c ≠ none → Hb c = none ∧ I1 c = none) (f2 : Same F1 H1) (f3 : o1.p I1 F1 v) (x2 : Ext I1 H1 I2 H2) (hb : HasT Hb)
    (g1 : ∀ c, F2 c ≠ none → H1 c = none ∧ I2 c = none) (g2 : Same F2 H2) (g3 : o2.p I2 F2 w) (hl : H2 l = none) :
    RK.holds g (.ow (oC wT [o1, o2])) Hb (.ref l) I2 (upd H2 l (.tup [v, w])) := by
  have hI := x2.s.free hl
  have f2' := x2.h.part f2 (frag_noT hb f1)
  have F1l : F1 l = none := f2'.free hl
  have F2l : F2 l = none := g2.free hl
  have dis : ∀ c, F2 c ≠ none → F1 c = none := fun c hc => f2.free (g1 c hc).1
  have hU : ∀ c o, Un F1 F2 c = some o → H2 c = some o := fun c o e => (un_some e).elim (fun z => g2 _ _ z) fun z => f2' _ _ z.2
  refine ⟨NewF (Un F1 F2) l (.tup [v, w]) fun _ => none, fun c hc => ?_, fun c o e => ?_, l, _, [v, w], rfl, newF_root, rfl, rfl, pk2 F1 F2, fun n o u e1 e2 => ?_, fun n c o e => ?_, fun n => ?_, fun n n2 c e1 e2 => ?_⟩
  · rcases newF_ne hc with z | z | z
    · subst z; exact ⟨b1.free (x2.h.free hl), hI⟩
    · exact absurd rfl z
    · cases q : F2 c with
      | some o => exact ⟨b1.free (g1 c (ne_of_some q)).1, (g1 c (ne_of_some q)).2⟩
      | none =>
        rw [un_none q] at z
        exact ⟨(f1 c z).1, x2.n c (same_ne f2 z) (f1 c z).2⟩
  · by_cases hc : c = l
    · subst hc
      rw [newF_root] at e
      rw [upd_same]; exact e
    · rw [newF_old hc rfl] at e
      rw [upd_ne hc]
      exact hU c o e
  · match n, e1, e2 with
    | 0, e1, e2 =>
      cases e1
      cases e2
      exact OR.mono _ x2.i f3
    | 1, e1, e2 =>
      cases e1
      cases e2
      exact g3
    | n + 2, e1, e2 => simp at e1
  · match n, e with
    | 0, e =>
      have e' : F1 c = some o := e
      rw [newF_old (fun z => by rw [z, F1l] at e'; cases e') rfl]
      cases hq : F2 c with
      | none => rw [un_none hq]; exact e'
      | some y => rw [dis c (ne_of_some hq)] at e'; cases e'
    | 1, e =>
      have e' : F2 c = some o := e
      rw [newF_old (fun z => by rw [z, F2l] at e'; cases e') rfl]
      exact un_r e'
    | n + 2, e => cases e
  · match n with
    | 0 => exact F1l
    | 1 => exact F2l
    | n + 2 => rfl
  · match n, n2, e1, e2 with
    | 0, 0, _, _ => rfl
    | 1, 1, _, _ => rfl
    | 0, 1, e1, e2 => exact absurd (dis c e2) e1
    | 1, 0, e1, e2 => exact absurd (dis c e1) e2
    | 0, n + 2, e1, e2 => exact absurd rfl e2
    | 1, n + 2, e1, e2 => exact absurd rfl e2
    | n + 2, _, e1, _ => exact absurd rfl e1
end
section
variable {X : Cx} {g : Gb} {B : Bs} {J : Hp} {S : SL} {e1 e2 : Expr} {pos pos' p : Pos} {o α β : Type} [Py α] {K : KT o}
theorem mb_retM {n : Nat} (i : Nat) {x : Str} {as : List α} {m2 : Option β} {k2 : β → RK} {inj : T2 (List α) β → o} (kr : KR g B K inj (fun t => .ow (oC wT [oF (rl g t.x0), (k2 t.x1).orOf]))) (h2 : ME X g B S e2 m2 k2) (s2 : ∀ a, (k2 a).slotty = true := by intro _; rfl) (hS : S[i]? = some (some (.fr (rl g as))) := by rfl) (hN : X.N[i]? = some x := by rfl) (hv : Vis X.env.scope x := by first | exact Or.inl rfl | exact Or.inr (Or.inl rfl) | exact Or.inr (Or.inr rfl))
    (hd : (x == ("__debug__" : Str)) = false := by decide) (hcd : (x == ("__classdict__" : Str)) = false := by decide)
    (hs : starEach [.Name x p, e2] X.env = (false, eval (.Name x p) X.env) :: starEach [e2] X.env := by rfl) (hs2 : starEach [e2] X.env = (false, eval e2 X.env) :: starEach [] X.env := by rfl) : MB X g B J S [.Return (some (.Tuple [.Name x p, e2] n pos')) pos] (m2 >>= fun b => some (inj (T2.mk as b))) K := by
  refine ⟨fun r q => ?_⟩
  obtain ⟨b, q2, q3⟩ := bind_some q
  cases q3
  refine pss_imp (pss_one (ps_ret (pe_tup (pa_cons (pe_var hN hv hd hcd) (pa_cons (h2.run b q2) pa_nil hs2) hs)))) fun D σ H ⟨I, ok, kk⟩ => ?_
  obtain ⟨v, e1, l1, vs, rfl, a1, a2, a3, a4⟩ := ok.h.at_ i _ hS
  refine ⟨_, e1, I, ok.h, fun w I2 H2 x2 hw => ⟨by show 2 ≤ sizeLine; decide, fun l hl => ?_⟩⟩
  obtain ⟨F2, g1, g2, g3⟩ := RK.fragO (s2 b) hw
  refine kr (T2.mk as b) D kk (.ref l) I2 _ ((ok.x.trans x2).trans ⟨Same.refl _, SW.of (same_new hl), x2.s.trans (same_new hl), fun _ _ z => z⟩) ?_
  refine own_pair (F1 := fun c => if c = l1 then some (.lst vs) else none) ok.x.h (fun c hc => ?_) (fun c o e => ?_) ⟨l1, vs, rfl, if_pos rfl, a4⟩ x2 ?_ g1 g2 g3 hl
  · have hc' : (if c = l1 then some (HO.lst vs) else none) ≠ none := hc
    by_cases hcl : c = l1
    · subst hcl; exact ⟨a1, a2⟩
    · rw [if_neg hcl] at hc'; exact absurd rfl hc'
  · have e' : (if c = l1 then some (HO.lst vs) else none) = some o := e
    by_cases hcl : c = l1
    · subst hcl; rw [if_pos rfl] at e'; cases e'; exact a3
    · rw [if_neg hcl] at e'; cases e'
  · exact ok.h.tb.b
variable {β' γ' δ' : Type} [Py β'] [Py γ'] [Py δ']
/-! the length of a tuple, of a row -/
variable {m : Option α} {e : Expr}
variable {α β γ δ : Type} [Py α] [Py β] [Py γ] [Py δ] {p2 p3 p4 : Pos}
theorem mg_t4 (i j l m : Nat) {x y z t : Str} {k : Nat} (hN : X.N.Nodup) (h0 : X.N[i]? = some x := by rfl) (h1 : X.N[j]? = some y := by rfl) (h2 : X.N[l]? = some z := by rfl) (h3 : X.N[m]? = some t := by rfl) (hx0 : Loc X.env.scope x := by first | exact Or.inl rfl | exact Or.inr rfl) (hx1 : Loc X.env.scope y := by first | exact Or.inl rfl | exact Or.inr rfl) (hx2 : Loc X.env.scope z := by first | exact Or.inl rfl | exact Or.inr rfl) (hx3 : Loc X.env.scope t := by first | exact Or.inl rfl | exact Or.inr rfl) (hf0 : X.fn x = true ∨ X.env.scope.names.lookup x = some .local := by first | exact .inl rfl | exact .inr rfl) (hf1 : X.fn y = true ∨ X.env.scope.names.lookup y = some .local := by first | exact .inl rfl | exact .inr rfl) (hf2 : X.fn z = true ∨ X.env.scope.names.lookup z = some .local := by first | exact .inl rfl | exact .inr rfl) (hf3 : X.fn t = true ∨ X.env.scope.names.lookup t = some .local := by first | exact .inl rfl | exact .inr rfl)
    (hc : X.calm = true := by rfl) (hK : X.K = g.K := by rfl) (hn : (assignEach [Expr.Name x p, Expr.Name y p2, Expr.Name z p3, Expr.Name t p4] X.env).length = 4 := by rfl) (hst : (assignEach [Expr.Name x p, Expr.Name y p2, Expr.Name z p3, Expr.Name t p4] X.env).findIdx? (·.1) = none := by rfl) (hs0 : (assignEach [Expr.Name x p, Expr.Name y p2, Expr.Name z p3, Expr.Name t p4] X.env).map (·.2) = assign (.Name x p) X.env :: (assignEach [Expr.Name y p2, Expr.Name z p3, Expr.Name t p4] X.env).map (·.2) := by rfl) (hs1 : (assignEach [Expr.Name y p2, Expr.Name z p3, Expr.Name t p4] X.env).map (·.2) = assign (.Name y p2) X.env :: (assignEach [Expr.Name z p3, Expr.Name t p4] X.env).map (·.2) := by rfl) (hs2 : (assignEach [Expr.Name z p3, Expr.Name t p4] X.env).map (·.2) = assign (.Name z p3) X.env :: (assignEach [Expr.Name t p4] X.env).map (·.2) := by rfl) (hs3 : (assignEach [Expr.Name t p4] X.env).map (·.2) = assign (.Name t p4) X.env :: (assignEach [] X.env).map (·.2) := by rfl) :
    MG (α := T4 α β γ δ) X g (.Tuple [.Name x p, .Name y p2, .Name z p3, .Name t p4] k pos) (gTup g.K 4 (gCons (gName i) (gCons (gName j) (gCons (gName l) (gCons (gName m) gNil))))) (fun t S => (((S.set i (some (.im (Py.r g t.x0)))).set j (some (.im (Py.r g t.x1)))).set l (some (.im (Py.r g t.x2)))).set m (some (.im (Py.r g t.x3)))) [i, j, l, m] :=
  ⟨by rw [← hK]; exact pg_tup hc (pgs_cons (pg_name hN h0 hx0 hf0) (pgs_cons (pg_name hN h1 hx1 hf1) (pgs_cons (pg_name hN h2 hx2 hf2) (pgs_cons (pg_name hN h3 hx3 hf3) pgs_nil hs3) hs2) hs1) hs0) hn hst, fun B S t v σ I H Q h ⟨q, a, b, c, d, e, h0, h1, h2, h3, h4⟩ k => ⟨q, [a, b, c, d], e, seqT h.sub h0, rfl, a, [b, c, d], rfl, b, [c, d], rfl, c, [d], rfl, d, [], rfl, rfl, k _ (hold_put (hold_put (hold_put (hold_put h h1) h2) h3) h4) fun vs ht => (wipe_set (ht m (by simp))).trans ((wipe_set (ht l (by simp))).trans ((wipe_set (ht j (by simp))).trans (wipe_set (ht i (by simp)))))⟩⟩
end
end T
set_option Elab.async false
set_option linter.all false
set_option maxRecDepth 100000
namespace T
variable [TabsC]
open PySem PySem.Spec PyProof.Rows L2
/-! a stretch in which own lists stand still: a new base for the while -/
def eqP (u : V) : PR := ⟨fun _ v => v = u, fun _ h => h⟩
def lentP (g : Gb) (u : V) (BH : Hp) (q : PL) : PR := ⟨fun I v => v = u ∧ ∃ l vs, v = .ref l ∧ SqL g.K BH l vs ∧ q.p I vs, fun s ⟨e, l, vs, e2, h, h2⟩ => ⟨e, l, vs, e2, h, q.mono s h2⟩⟩
inductive Lend (g : Gb) (u : Nat → V) (BH : Hp) : Nat → SL → SL → Prop
  | nil {n : Nat} : Lend g u BH n [] []
  | no {n : Nat} {S T : SL} : Lend g u BH (n + 1) S T → Lend g u BH n (none :: S) (none :: T)
  | im {n : Nat} {p : PR} {S T : SL} : Lend g u BH (n + 1) S T → Lend g u BH n (some (.im p) :: S) (some (.im p) :: T)
  | hide {n : Nat} {k : RK} {S T : SL} : Lend g u BH (n + 1) S T → Lend g u BH n (some k :: S) (some (.im (eqP (u n))) :: T)
  | lend {n : Nat} {q : PL} {S T : SL} : Lend g u BH (n + 1) S T → Lend g u BH n (some (.fr q) :: S) (some (.im (lentP g (u n) BH q)) :: T)
  | lendB {n : Nat} {q : PL} {S T : SL} : Lend g u BH (n + 1) S T → Lend g u BH n (some (.bw q) :: S) (some (.im (lentP g (u n) BH q)) :: T)
inductive Back (g : Gb) (u : Nat → V) (BH : Hp) : Nat → SL → SL → SL → Prop
  | nil {n : Nat} : Back g u BH n [] [] []
  | no {n : Nat} {s : Option RK} {S T T' : SL} : Back g u BH (n + 1) S T T' → Back g u BH n (s :: S) (none :: T) (none :: T')
  | im {n : Nat} {s : Option RK} {p : PR} {S T T' : SL} : Back g u BH (n + 1) S T T' → Back g u BH n (s :: S) (some (.im p) :: T) (some (.im p) :: T')
  | hide {n : Nat} {k : RK} {S T T' : SL} : Back g u BH (n + 1) S T T' → Back g u BH n (some k :: S) (some (.im (eqP (u n))) :: T) (some k :: T')
  | lend {n : Nat} {k : RK} {q : PL} {S T T' : SL} : Back g u BH (n + 1) S T T' → Back g u BH n (some k :: S) (some (.im (lentP g (u n) BH q)) :: T) (some k :: T')
theorem Lend.len {g : Gb} {u : Nat → V} {BH : Hp} {n : Nat} {S T : SL} (h : Lend g u BH n S T) : T.length = S.length := by
  induction h with
  | nil => rfl
  | no _ ih | im _ ih | hide _ ih | lend _ ih | lendB _ ih => simp [ih]
theorem Back.len {g : Gb} {u : Nat → V} {BH : Hp} {n : Nat} {S T T' : SL} (h : Back g u BH n S T T') : T'.length = T.length := by
  induction h with
  | nil => rfl
  | no _ ih | im _ ih | hide _ ih | lend _ ih => simp [ih]
theorem Lend.at_ {g : Gb} {u : Nat → V} {BH : Hp} {n : Nat} {S T : SL} (h : Lend g u BH n S T) : ∀ (i : Nat) (k : RK), T[i]? = some (some k) →
    (∃ p, k = .im p ∧ S[i]? = some (some (.im p))) ∨ (k = .im (eqP (u (n + i))) ∧ ∃ k0, S[i]? = some (some k0)) ∨ (∃ q, k = .im (lentP g (u (n + i)) BH q) ∧ (S[i]? = some (some (.fr q)) ∨ S[i]? = some (some (.bw q)))) := by
  induction h with
  | nil => intro i k e; simp at e
  | @no n S T _ ih =>
    intro i k e
    cases i with
    | zero => cases e
    | succ i =>
      have := ih i k e
      rwa [show n + 1 + i = n + (i + 1) by omega] at this
  | @im n p S T _ ih =>
    intro i k e
    cases i with
    | zero => cases e; exact .inl ⟨p, rfl, rfl⟩
    | succ i =>
      have := ih i k e
      rwa [show n + 1 + i = n + (i + 1) by omega] at this
  | @hide n k0 S T _ ih =>
    intro i k e
    cases i with
    | zero => cases e; exact .inr (.inl ⟨rfl, k0, rfl⟩)
    | succ i =>
      have := ih i k e
      rwa [show n + 1 + i = n + (i + 1) by omega] at this
  | @lend n q S T _ ih =>
    intro i k e
    cases i with
    | zero => cases e; exact .inr (.inr ⟨q, rfl, .inl rfl⟩)
    | succ i =>
      have := ih i k e
      rwa [show n + 1 + i = n + (i + 1) by omega] at this
  | @lendB n q S T _ ih =>
    intro i k e
    cases i with
    | zero => cases e; exact .inr (.inr ⟨q, rfl, .inr rfl⟩)
    | succ i =>
      have := ih i k e
      rwa [show n + 1 + i = n + (i + 1) by omega] at this
theorem Back.at_ {g : Gb} {u : Nat → V} {BH : Hp} {n : Nat} {S T T' : SL} (h : Back g u BH n S T T') : ∀ (i : Nat) (k : RK), T'[i]? = some (some k) →
    (∃ p, k = .im p ∧ T[i]? = some (some (.im p))) ∨ (S[i]? = some (some k) ∧ ∃ p : PR, T[i]? = some (some (.im p)) ∧ ∀ I v, p.p I v → v = u (n + i)) := by
  induction h with
  | nil => intro i k e; simp at e
  | @no n s S T T' _ ih =>
    intro i k e
    cases i with
    | zero => cases e
    | succ i =>
      have := ih i k e
      rwa [show n + 1 + i = n + (i + 1) by omega] at this
  | @im n s p S T T' _ ih =>
    intro i k e
    cases i with
    | zero => cases e; exact .inl ⟨p, rfl, rfl⟩
    | succ i =>
      have := ih i k e
      rwa [show n + 1 + i = n + (i + 1) by omega] at this
  | @hide n k0 S T T' _ ih =>
    intro i k e
    cases i with
    | zero => cases e; exact .inr ⟨rfl, _, rfl, fun I v h => h⟩
    | succ i =>
      have := ih i k e
      rwa [show n + 1 + i = n + (i + 1) by omega] at this
  | @lend n k0 q S T T' _ ih =>
    intro i k e
    cases i with
    | zero => cases e; exact .inr ⟨rfl, _, rfl, fun I v h => h.1⟩
    | succ i =>
      have := ih i k e
      rwa [show n + 1 + i = n + (i + 1) by omega] at this
/-- how the new base stands to the old one -/
def LF (g : Gb) (B : Bs) (J : Hp) (S : SL) (u : Nat → V) (B' : Bs) (J' : Hp) : Prop := ∃ σ0 Φ0, HoldF g B S σ0 B'.I B'.H Φ0 ∧ Ext B.I B.H B'.I B'.H ∧ Same J B'.I ∧ J' = B'.I ∧ ∀ n v, σ0[n]? = some (some v) → u n = v
section
variable {X : Cx} {g : Gb} {B : Bs} {J : Hp} {S : SL} {o : Type} {K : KT o} {m : Option o} {sts rest : List Stmt}
end
section
variable {X : Cx} {g : Gb} {B : Bs} {S : SL} {α : Type} [Py α] {pos : Pos}
end
end T
set_option Elab.async false
set_option linter.all false
set_option maxRecDepth 100000
namespace T
variable [TabsC]
open PySem PySem.Spec PyProof.Rows L2
/-! x[i] op= e, of a list of ints of one's own -/
section
variable {X : Cx} {g : Gb} {B : Bs} {J : Hp} {S : SL} {e e1 : Expr} {pos apos p : Pos} {o : Type} {K : KT o} {rest : List Stmt}
end
end T
set_option Elab.async false
set_option linter.all false
set_option maxRecDepth 100000
namespace T
variable [TabsC]
open PySem PySem.Spec PyProof.Rows L2 ClX
/-! defs that change what they are handed: the call -/
def eqD {δ : Type} (u : V) (x y : δ) : PR := ⟨fun _ v => v = u ∧ y = x, fun _ h => h⟩
def fq (q : Nat) (F : Hp) : Nat → Hp := fun n => if n = q then F else fun _ => none
theorem fq_same {q : Nat} {F : Hp} : fq q F q = F := if_pos rfl
theorem fq_ne {q n : Nat} {F : Hp} (h : n ≠ q) : fq q F n = fun _ => none := if_neg h
section
variable {X : Cx} {g : Gb} {B : Bs} {J : Hp} {S : SL} {σ : L2.St} {I H : Hp} {Φ : Nat → Hp} {i : Nat} {k : RK} {v : V} {o0 op : OR}
theorem io_preQ {ks : List RK} {vs : List V} {p0 : PR} (q : Nat) (hq : ks[q]? = some (.ow o0)) (h : HoldF g B S σ I H Φ) (hv : o0.p I (Φ i) v) (hA : Args g (ks.set q (.im p0)) vs I H) (hvq : vs[q]? = some v) (him : (ks.set q (.im p0)).all RK.isIm = true) : Same (Rest H (Φ i)) H ∧ ArgsF g ks vs I (Rest H (Φ i)) H (fq q (Φ i)) := by
  have hlq := (List.getElem?_eq_some_iff.mp hq).1
  refine ⟨fun a o e => (rest_some e).2, by rw [← Paired.length hA, List.length_set], fun n k u e1 e2 => ?_, fun n a o e => ?_, fun n1 n2 a e1 e2 => ?_⟩
  · by_cases hn : n = q
    · subst hn
      rw [hq] at e1
      cases e1
      rw [hvq] at e2
      cases e2
      rw [fq_same]; exact hv
    · rw [fq_ne hn]
      have e3 : (ks.set q (.im p0))[n]? = some k := by rw [List.getElem?_set_ne (fun z => hn z.symm)]; exact e1
      obtain ⟨u', e4, h4⟩ := paired_get hA e3
      rw [e2] at e4
      cases e4
      have ha := List.all_eq_true.mp him _ (List.mem_of_getElem? e3)
      cases k with
      | im p => exact h4
      | fr p => cases ha
      | bw p => cases ha
      | rd p => cases ha
      | ow p => cases ha
  · by_cases hn : n = q
    · subst hn
      rw [fq_same] at e
      obtain ⟨f1, f2, _⟩ := h.fr i a o e
      exact ⟨f1, f2, rest_none (ne_of_some e)⟩
    · rw [fq_ne hn] at e; cases e
  · by_cases h1 : n1 = q
    · by_cases h2 : n2 = q
      · rw [h1, h2]
      · rw [fq_ne h2] at e2; exact absurd rfl e2
    · rw [fq_ne h1] at e1; exact absurd rfl e1
theorem io_postQ {o' : OR} (q0 : Nat) {vs : Nat → Option V} {w : V} {I' H' F : Hp} {Φ' : Nat → Hp} (x : Ext B.I B.H I H) (oj : Same J I) (h : HoldF g B S σ I H Φ) (e1 : σ[i]? = some (some v)) (hvs : vs q0 = some v) (hp : Post g I (Rest H (Φ i)) k [(q0, o')] vs w I' H' F Φ') (pin : ∀ F', o'.p I' F' v → op.p I' F' v) :
    Ext B.I B.H I' H' ∧ Same J I' ∧ ∃ Φ2, HoldF g B (S.set i (some (.ow op))) σ I' H' Φ2 ∧ (∀ j a, F a ≠ none → Φ2 j a = none) := by
  have other : ∀ j a, j ≠ i → Φ j a ≠ none → Φ i a = none := fun j a hj ha => by
    cases q : Φ i a with
    | none => rfl
    | some o => exact absurd (h.dj j i a ha (ne_of_some q)) hj
  have off : ∀ a, B.H a ≠ none → Φ i a = none := fun a e => by
    cases q : Φ i a with
    | none => rfl
    | some y => exact absurd (h.fr i a y q).2.2 e
  have base : ∀ a, B.H a ≠ none → Rest H (Φ i) a ≠ none := fun a e => by
    rw [rest_of (off a e)]
    exact fun z => e (h.base.f a z)
  have sB : SW B.H H' := ⟨fun a o e => by
    rcases h.base.k a o e with z | z
    · exact hp.h.k a o (by rw [rest_of (off a (ne_of_some e))]; exact z)
    · exact .inr z, fun a e => by
    cases q : B.H a with
    | none => rfl
    | some o => exact absurd (hp.h.f a e) (base a (ne_of_some q)), fun _ => hp.tb⟩
  have x' : Ext B.I B.H I' H' := ⟨x.i.trans hp.i, sB, hp.s, fun l n1 n2 => by
    cases e : B.H l with
    | none => exact absurd e n1
    | some o => exact hp.n l (base l n1) (x.n l n1 n2)⟩
  obtain ⟨u, z1, z2⟩ := hp.out (q0, o') (List.mem_singleton.mpr rfl)
  rw [hvs] at z1
  cases z1
  have hσ : σ.set i (some v) = σ := by
    apply List.ext_getElem?
    intro j
    by_cases hj : i = j
    · subst hj
      rw [List.getElem?_set_self (List.getElem?_eq_some_iff.mp e1).1, e1]
    · rw [List.getElem?_set_ne hj]
  have hR : ∀ j a, j ≠ i → Φ j a ≠ none → Rest H (Φ i) a ≠ none := fun j a hj ha => by
    rw [rest_of (other j a hj ha)]
    exact (h.ne ha).1
  refine ⟨x', oj.trans hp.i, putF Φ i (Φ' q0), ?_, fun j a ha => ?_⟩
  · have h2 : HoldF g B (S.set i (some (.ow op))) (σ.set i (some v)) I' H' (putF Φ i (Φ' q0)) := by
      refine ⟨by rw [List.length_set, List.length_set, h.len], hp.s, sB, ⟨hp.tb, h.tb.b, fun p hp' => hp.n _ (base _ (h.tb.b p hp')) (h.tb.i p hp')⟩, fun j k' e => ?_, fun j a o e => ?_, fun j l a hj hl => ?_⟩
      · rcases set_some e with ⟨a, b, c⟩ | ⟨a, b⟩
        · subst a
          cases b
          exact ⟨v, List.getElem?_set_self (by rw [h.len]; exact c), by rw [putF_same]; exact pin _ z2⟩
        · obtain ⟨u, e2, q⟩ := h.at_ j k' b
          exact ⟨u, by rw [List.getElem?_set_ne a]; exact e2, by rw [putF_ne (fun z => a z.symm)]; exact RK.inS_mono hp.i q⟩
      · by_cases hji : j = i
        · rw [hji, putF_same] at e
          obtain ⟨y1, y2, y3⟩ := hp.fr q0 a o e
          refine ⟨y1, y2, ?_⟩
          cases q : B.H a with
          | none => rfl
          | some y => exact absurd y3 (base a (ne_of_some q))
        · rw [putF_ne hji] at e
          obtain ⟨f1, f2, f3⟩ := h.fr j a o e
          have hr := hR j a hji (ne_of_some e)
          refine ⟨hp.h.at_ ?_ (fun p hp' z => by rw [← z, h.noT j p hp'] at e; cases e), hp.n a hr f2, f3⟩
          rw [rest_of (other j a hji (ne_of_some e))]; exact f1
      · have no : ∀ m, m ≠ i → Φ' q0 a ≠ none → Φ m a ≠ none → False := fun m hm f1 f2 => by
          cases q : Φ' q0 a with
          | none => exact f1 q
          | some y => exact hR m a hm f2 (hp.fr q0 a y q).2.2
        by_cases hji : j = i
        · by_cases hli : l = i
          · rw [hji, hli]
          · rw [hji, putF_same] at hj
            rw [putF_ne hli] at hl
            exact (no l hli hj hl).elim
        · by_cases hli : l = i
          · rw [hli, putF_same] at hl
            rw [putF_ne hji] at hj
            exact (no j hji hl hj).elim
          · rw [putF_ne hji] at hj
            rw [putF_ne hli] at hl
            exact h.dj j l a hj hl
    rw [hσ] at h2
    exact h2
  · by_cases hji : j = i
    · rw [hji, putF_same]
      cases q : Φ' q0 a with
      | none => rfl
      | some y => exact absurd (hp.dv q0 a (ne_of_some q)) ha
    · rw [putF_ne hji]
      cases q : Φ j a with
      | none => rfl
      | some y => exact absurd (hp.fF a ha).1 (hR j a hji (ne_of_some q))
end
section
variable {X : Cx} {g : Gb} {B : Bs} {J : Hp} {S : SL} {e : Expr} {es : List Expr} {pos p p2 apos cpos : Pos} {o ι β δ : Type} {K : KT o} {rest sts : List Stmt} {m' : Option o}
theorem mb_pin {o0 : OR} (i : Nat) (hS : S[i]? = some (some (.ow o0))) (h : ∀ u0, MB X g B J (S.set i (some (.ow (oP u0 o0)))) sts m' K) : MB X g B J S sts m' K := by
  refine ⟨fun r q => ⟨fun pins s σ H D IV hw => ?_⟩⟩
  obtain ⟨I, ok, kk⟩ := hw
  obtain ⟨Φ, h0⟩ := ok.h
  obtain ⟨v, e1, h1⟩ := h0.at_ i _ hS
  refine ((h v).run r q).run pins s σ H D IV ⟨I, ⟨ok.x, ok.j, Φ, ?_⟩, kk⟩
  refine ⟨by rw [List.length_set]; exact h0.len, h0.sub, h0.base, h0.tb, fun j k e => ?_, h0.fr, h0.dj⟩
  rcases set_some e with ⟨a, b, c⟩ | ⟨a, b⟩
  · subst a
    cases b
    exact ⟨v, e1, rfl, h1⟩
  · exact h0.at_ j k b
theorem mb_unpin {o0 : OR} {u0 : V} (i : Nat) (hS : S[i]? = some (some (.ow (oP u0 o0)))) (h : MB X g B J (S.set i (some (.ow o0))) sts m' K) : MB X g B J S sts m' K := by
  refine ⟨fun r q => pss_imp (h.run r q) fun D σ H ⟨I, ok, kk⟩ => ⟨I, ⟨ok.x, ok.j, ?_⟩, kk⟩⟩
  obtain ⟨Φ, h0⟩ := ok.h
  refine ⟨Φ, by rw [List.length_set]; exact h0.len, h0.sub, h0.base, h0.tb, fun j k e => ?_, h0.fr, h0.dj⟩
  rcases set_some e with ⟨a, b, c⟩ | ⟨a, b⟩
  · subst a
    cases b
    obtain ⟨v, e1, h1⟩ := h0.at_ i _ hS
    exact ⟨v, e1, h1.2⟩
  · exact h0.at_ j k b
theorem co_eq {α : Type} {f : α → PR} : Coe g (fun a => .im (f a)) (fun a => .im (f a)) := fun _ _ _ _ _ _ h => h
theorem me_pind {x : Str} {u0 : V} {o0 : OR} (i : Nat) (d : δ) (hS : S[i]? = some (some (.ow (oP u0 o0))) := by rfl) (hN : X.N[i]? = some x := by rfl) (hv : Vis X.env.scope x := by first | exact Or.inl rfl | exact Or.inr (Or.inl rfl) | exact Or.inr (Or.inr rfl))
    (hd : (x == ("__debug__" : Str)) = false := by decide) (hcd : (x == ("__classdict__" : Str)) = false := by decide) : ME X g B S (.Name x pos) (some d) (fun y => .im (eqD u0 d y)) := by
  refine ⟨fun a' e => ?_⟩
  cases e
  refine pe_imp (pe_var hN hv hd hcd) fun σ H Q ⟨I, h, q⟩ => ?_
  obtain ⟨Φ, h0⟩ := h
  obtain ⟨v, e1, h1⟩ := h0.at_ i _ hS
  exact ⟨v, e1, q v I H (Ext.refl h0.sub) ⟨h1.1, rfl⟩⟩
variable {args args' : ι → List RK} {M : ι → Option β} {outs : β → List (Nat × OR)} {m : Option β} {j kk : Nat} {f : Addr} {fd : FuncData} {ps : List Str} {x : Str} {ds : List Value} {fn : β → Option o}
/-- f(..) alone; the thing of the slot i, handed in at the place q, is changed -/
theorem mb_callIO {or : β → OR} {u0 : V} {d : δ} {oT : δ → OR} {pr : ι → δ} (i q : Nat) (F : FnOk X.prog X.w X.K X.mg X.base CX0 j f fd ps (spIO g args M (fun _ => .im (Py.r g ())) outs)) (hr : Room kk X.A) (hj : j ≤ kk) (hm : X.mg x = some (.ref f)) (hk : PySem.W.keepIn X.K (.ref f) = true) (hb : Binds X.K fd ps ds) (hd : Vals [] ds)
    (ha : MA X g B S (e :: es) [] args' m M) (hrest : ∀ r, MB X g B J (S.set i (some (.ow (oP u0 (or r))))) rest (fn r) K) (hS : S[i]? = some (some (.ow (oP u0 (oT d)))) := by rfl)
    (hset : ∀ a, args' a = (args a).set q (.im (eqD u0 d (pr a))) := by intro _; rfl) (hq : ∀ a, (args a)[q]? = some (.ow (oT (pr a))) := by intro _; rfl) (him : ∀ a, (args' a).all RK.isIm = true := by intro _; rfl) (hout : ∀ r, outs r = [(q, or r)] := by intro _; rfl)
    (hg : Gl X x := by rfl) (hdb : (x == ("__debug__" : Str)) = false := by decide) (he : starEach (e :: es) X.env = (false, eval e X.env) :: starEach es X.env := by rfl) (hpl : (backTo cpos (starEach es X.env)).any (·.1) = false := by rfl)
    (hs : swapsWith (.Call (.Name x p) (e :: es) [] cpos) none pos.line X.env = pure false := by rfl) :
    MB X g B J S (.Expr (.Call (.Name x p) (e :: es) [] cpos) pos :: rest) (m >>= fn) K := by
  refine ⟨fun r' q' => ?_⟩
  obtain ⟨b, q1, q2⟩ := bind_some q'
  refine pss_imp (pss_cons (ps_expr (pe_call F (hr.mono hj) hg hm hk hb hd pass0 (ha.run b q1) hdb he hpl) hs) ((hrest b).run r' q2)) fun D σ H ⟨I, ok, kk⟩ => ?_
  obtain ⟨x0, oj, Φ, hh⟩ := ok
  refine ⟨I, ⟨Φ, hh⟩, fun a vs I1 H1 hM x1 hA => ?_⟩
  rw [List.append_nil] at hA ⊢
  have hh1 := hh.ext x1
  rw [hset a] at hA
  obtain ⟨v, e1, e2, e3⟩ := hh.at_ i _ hS
  have hlen : q < (args a).length := (List.getElem?_eq_some_iff.mp (hq a)).1
  obtain ⟨v2, f1, f2, f3⟩ := paired_get hA (i := q) (List.getElem?_set_self hlen)
  subst f2
  subst e2
  have hi := him a
  rw [hset a] at hi
  obtain ⟨sR, hAF⟩ := io_preQ (i := i) (o0 := oT (pr a)) (v := v) q (hq a) hh1 (by rw [f3]; exact OR.mono _ x1.i e3) hA f1 hi
  refine ⟨I1, Rest H1 (Φ i), fq q (Φ i), a, b, x1.s, sR, ⟨hh1.tb.t, fun p hp => ?_, hh1.tb.i⟩, hAF, hM, fun w I2 H2 F2 Φ2 hp => ?_⟩
  · rw [rest_of (hh1.noT i p hp)]
    exact hh1.tb.t.ne hp
  rw [hout b] at hp
  obtain ⟨y1, y2, Φ3, y3, _⟩ := io_postQ (op := oP v (or b)) q (x0.trans x1) (oj.trans x1.i) hh1 e1 f1 hp (fun F' z => ⟨rfl, z⟩)
  exact ⟨I2, ⟨y1, y2, Φ3, y3⟩, kk⟩
end
end T
set_option Elab.async false
set_option linter.all false
set_option maxRecDepth 100000
namespace T
variable [TabsC]
open PySem PySem.Spec PyProof.Rows L2 ClX
/-! defs that hand back nothing -/
def KtU (g : Gb) (B : Bs) : KT Unit := fun _ D => ∀ σ I' H', Ext B.I B.H I' H' → D.nx σ H' ∧ D.rt .non H'
section
variable {P : Program} {w : World} {K : PySem.W.Frag} {mg : Str → Option Value} {base : Heap} {ι : Type} {args : ι → List RK} {M : ι → Option Unit}
end
section
variable {X : Cx} {g : Gb} {B : Bs} {J : Hp} {S : SL} {e : Expr} {pos p p2 apos cpos : Pos} {o ι β δ : Type} {K : KT o} {rest sts : List Stmt}
/-! what stands at a place of an owned thing -/
variable {i : Nat} {mk : ι → OR → OR} {m : Option ι}
theorem me_plI {α : Type} [Py α] {a : ι → α} (h : MP X g B S i e m (fun x => oI (Py.r g (a x))) mk) : ME X g B S e (m >>= fun x => some (a x)) (KI g) := by
  refine ⟨fun r q => ?_⟩
  obtain ⟨x, q1, q2⟩ := bind_some q
  cases q2
  refine pe_imp (h.run x q1) fun σ H Q ⟨I, hh, kk⟩ => ?_
  obtain ⟨Φ, hf⟩ := hh
  refine ⟨I, Φ, hf, fun v1 I' H' xx ⟨v, e1, F1, s1, h1, _⟩ => kk v1 I' H' xx h1⟩
theorem me_plF {α : Type} [Py α] {a : ι → List α} (h : MP X g B S i e m (fun x => oF (rl g (a x))) mk) : ME X g B S e (m >>= fun x => some (a x)) (fun xs => .rd (rl g xs)) := by
  refine ⟨fun r q => ?_⟩
  obtain ⟨x, q1, q2⟩ := bind_some q
  cases q2
  refine pe_imp (h.run x q1) fun σ H Q ⟨I, hh, kk⟩ => ?_
  obtain ⟨Φ, hf⟩ := hh
  refine ⟨I, Φ, hf, fun v1 I' H' xx ⟨v, e1, F1, s1, h1, _⟩ => ?_⟩
  obtain ⟨l, vs, e2, h2, h3⟩ := h1
  refine kk v1 I' H' xx ⟨l, vs, e2, SqL.of ((hf.ext xx).fr i l _ (s1 _ _ h2)).1, h3⟩
end
end T
set_option Elab.async false
set_option linter.all false
set_option maxRecDepth 100000
namespace T
variable [TabsC]
open PySem PySem.Spec PyProof.Rows L2 ClX
/-! a new instance, by a call with keywords -/
def rdK {ι o : Type} (g : Gb) (B : Bs) (S : SL) (n : Nat) (args : ι → List RK) (M : ι → Option o) (r : o) : TA := fun σ H Q => ∃ I, Hold g B S σ I H ∧ ∀ a zs I' H', M a = some r → Ext I H I' H' → Args g (args a) zs I' H' → zs.length = n → Q zs H'
structure MKd {ι o : Type} (X : Cx) (g : Gb) (B : Bs) (S : SL) (kws : List Keyword) (n : Nat) (args : ι → List RK) (m : Option o) (M : ι → Option o) : Prop where
  run : ∀ r, m = some r → PK X kws (rdK g B S n args M r)
structure MX {ι o : Type} (X : Cx) (g : Gb) (B : Bs) (S : SL) (es : List Expr) (kws : List Keyword) (n k : Nat) (args : ι → List RK) (m : Option o) (M : ι → Option o) : Prop where
  run : ∀ r, m = some r → ∃ t tk, PA X es t ∧ PK X kws tk ∧ ∀ σ H (Q : List V → List V → Hp → Prop), (∃ I, Hold g B S σ I H ∧ ∀ a vs zs I' H', M a = some r → Ext I H I' H' → Args g (args a) (vs ++ zs) I' H' → vs.length = n → zs.length = k → Q vs zs H') → t σ H fun vs H1 => tk σ H1 fun zs H2 => Q vs zs H2
section
variable {X : Cx} {g : Gb} {B : Bs} {S : SL} {e : Expr} {es : List Expr} {kws : List Keyword} {p pos kpos : Pos} {nm : Option Str} {ι o α' : Type}
theorem MKd.p1 {n : Nat} {a : α'} {args : ι → List RK} {m2 : α' → Option o} {M : ι → Option o} (h : MKd X g B S kws n args (some a >>= m2) M) : MKd X g B S kws n args (m2 a) M := h
theorem MX.p1 {n k : Nat} {a : α'} {args : ι → List RK} {m2 : α' → Option o} {M : ι → Option o} (h : MX X g B S es kws n k args (some a >>= m2) M) : MX X g B S es kws n k args (m2 a) M := h
variable {β ιX : Type} {args : ι → List RK} {M : ι → Option β} {argsX : ιX → List RK} {M' : ιX → Option β} {outs : β → List (Nat × OR)} {m : Option β} {j kk n : Nat} {f C : Addr} {fd : FuncData} {ps ks : List Str} {x : Str} {gg : List Value → List Value → List Value} {gV gv : List V → List V → List V}
end
end T
set_option Elab.async false
set_option linter.all false
set_option maxRecDepth 100000
namespace T
variable [TabsC]
open PySem PySem.Spec PyProof.Rows L2 ClX
section
variable {X : Cx} {g : Gb} {B : Bs} {J : Hp} {S : SL} {e e2 : Expr} {pos apos : Pos} {i : Nat} {o ι : Type} {K : KT o} {rest : List Stmt} {m : Option ι} {mk : ι → OR → OR}
end
end T
set_option Elab.async false
set_option linter.all false
set_option maxRecDepth 100000
namespace T
variable [TabsC]
open PySem PySem.Spec PyProof.Rows L2
/-! a comprehension whose elements are things of one's own -/
def rdEsO {α β : Type} [Py α] (g : Gb) (B : Bs) (Sp : α → SL) (f : α → Option β) (kb : β → RK) : TE := fun σ H Q => ∃ a b I, f a = some b ∧ Hold g B (Sp a) σ I H ∧ ∀ v I' H', Ext I H I' H' → RK.holds g (kb b) H v I' H' → Q v H'
/-- the elements made so far -/
structure LcO {β : Type} (kc : β → OR) (ds : List β) (ws : List V) (D : Addr) (H1 I H F : Hp) : Prop where
  fr : ∀ a, F a ≠ none → H1 a = none ∧ I a = none
  s : Same F H
  d : F D = none
  k : Kids (ds.map kc) I F ws D
theorem LcO.ext {β : Type} {kc : β → OR} {ds : List β} {ws : List V} {D : Addr} {H1 I H F I' H' : Hp} (h : LcO kc ds ws D H1 I H F) (x : Ext I H I' H') (t : HasT H1) : LcO kc ds ws D H1 I' H' F :=
  ⟨fun a ha => ⟨(h.fr a ha).1, x.n a (same_ne h.s ha) (h.fr a ha).2⟩, x.h.part h.s (fun p hp => by
    cases q : F p.1 with
    | none => rfl
    | some u => exact absurd (h.fr p.1 (ne_of_some q)).1 (t p hp)), h.d, h.k.mono x.i⟩
theorem LcO.push {β : Type} {kc : β → OR} {ds : List β} {ws : List V} {D : Addr} {H1 I H F H' F' : Hp} {b : β} {u : V} {ob : HO} (h : LcO kc ds ws D H1 I H F) (hD : H D ≠ none) (hF : ∀ a, F' a ≠ none → H a = none) (hF1 : ∀ a, F' a ≠ none → H1 a = none ∧ I a = none) (sF : Same F' H') (sF0 : Same F H') (hp : (kc b).p I F' u) :
    LcO kc (ds ++ [b]) (ws ++ [u]) D H1 I (upd H' D ob) (Un F F') := by
  have dj : ∀ a, F' a ≠ none → F a = none := fun a ha => by
    cases q : F a with
    | none => rfl
    | some o => have := h.s _ _ q; rw [hF a ha] at this; cases this
  have F'D : F' D = none := by
    cases q : F' D with
    | none => rfl
    | some o => exact absurd (hF D (ne_of_some q)) hD
  have sU : Same F (Un F F') := un_l dj
  obtain ⟨hl, Ψ, k1, k2, k3, k4⟩ := h.k
  rw [List.length_map] at hl
  refine ⟨fun a ha => ?_, fun a o e => ?_, ?_, ?_, putF Ψ ds.length F', fun j o v e1 e2 => ?_, fun j => ?_, fun j => ?_, fun i j a e1 e2 => ?_⟩
  · by_cases z : F' a = none
    · rw [un_none z] at ha; exact h.fr a ha
    · exact hF1 a z
  · have haD : a ≠ D := fun z => by
      rw [z] at e
      rcases un_some e with y | ⟨_, y⟩
      · rw [F'D] at y; cases y
      · rw [h.d] at y; cases y
    rw [upd_ne haD]
    rcases un_some e with y | ⟨_, y⟩
    · exact sF a o y
    · exact sF0 a o y
  · rw [un_none F'D]; exact h.d
  · simp [hl]
  · rw [List.map_append] at e1
    by_cases hj : j < ds.length
    · rw [List.getElem?_append_left (by rw [List.length_map]; exact hj)] at e1
      rw [List.getElem?_append_left (by omega)] at e2
      rw [putF_ne (by omega)]
      exact k1 j o v e1 e2
    · have hj2 : j = ds.length := by
        have := (List.getElem?_eq_some_iff.mp e1).1
        simp at this
        omega
      subst hj2
      rw [List.getElem?_append_right (by rw [List.length_map]; exact Nat.le_refl _), List.length_map, Nat.sub_self] at e1
      rw [List.getElem?_append_right (by omega), hl, Nat.sub_self] at e2
      cases e1
      cases e2
      rw [putF_same]; exact hp
  · by_cases hj : j = ds.length
    · rw [hj, putF_same]; exact un_s
    · rw [putF_ne hj]; exact (k2 j).trans sU
  · by_cases hj : j = ds.length
    · rw [hj, putF_same]; exact F'D
    · rw [putF_ne hj]; exact k3 j
  · by_cases hi : i = ds.length
    · by_cases hj : j = ds.length
      · rw [hi, hj]
      · rw [hi, putF_same] at e1
        rw [putF_ne hj] at e2
        exact absurd (dj a e1) (same_ne (k2 j) e2)
    · by_cases hj : j = ds.length
      · rw [hj, putF_same] at e2
        rw [putF_ne hi] at e1
        exact absurd (dj a e2) (same_ne (k2 i) e1)
      · rw [putF_ne hi] at e1
        rw [putF_ne hj] at e2
        exact k4 i j a e1 e2
theorem LcO.done {β : Type} {g : Gb} {kc : β → OR} {ds : List β} {ws : List V} {D : Addr} {H1 I H F H0 : Hp} (h : LcO kc ds ws D H1 I H F) (s01 : ∀ a, H1 a = none → H0 a = none) (hD1 : H1 D = none) (hI : I D = none) (hH : H D = some (.lst ws)) (hl : ws.length ≤ sizeLine) :
    RK.holds g (.ow (oC wL (ds.map kc))) H0 (.ref D) I H := by
  refine ⟨NewF F D (.lst ws) (fun _ => none), fun a ha => ?_, fun a o e => ?_, D, _, ws, rfl, newF_root, ⟨rfl, hl⟩, h.k.len, ?_⟩
  · rcases newF_ne ha with z | z | z
    · subst z; exact ⟨s01 _ hD1, hI⟩
    · exact absurd rfl z
    · exact ⟨s01 _ (h.fr a z).1, (h.fr a z).2⟩
  · by_cases z : a = D
    · subst z; rw [newF_root] at e; rw [hH]; exact e
    · rw [newF_old z rfl] at e; exact h.s a o e
  · obtain ⟨Ψ, k1, k2, k3, k4⟩ := h.k.ex
    refine ⟨Ψ, k1, fun j a o e => ?_, k3, k4⟩
    rw [newF_old (fun z => by rw [z, k3 j] at e; cases e) rfl]
    exact k2 j a o e
section
variable {X : Cx} {g : Gb} {B : Bs} {J : Hp} {S : SL} {e e1 e2 e3 tg elt iter : Expr} {es ifs : List Expr} {pos pos' p p2 p3 apos cpos : Pos} {o α' β' γ' ρ : Type} {K : KT o} {rest body : List Stmt} {α β γ δ : Type} [Py α]
end
end T
set_option Elab.async false
set_option linter.all false
set_option maxRecDepth 100000
namespace T
variable [TabsC]
open PySem PySem.Spec PyProof.Rows L2
/-! things of one's own that stay for a stretch, and are one's own again behind it -/
/-- a thing that stays and is the value u -/
def pinP (u : V) (p : PR) : PR := ⟨fun I v => v = u ∧ p.p I v, fun s h => ⟨h.1, p.mono s h.2⟩⟩
def UnL (I : Hp) (Φ : Nat → Hp) : List Nat → Hp
  | [] => I
  | j :: js => Un (UnL I Φ js) (Φ j)
structure Fz where
  j : Nat
  o : OR
  p : PR
def FZ (g : Gb) (B : Bs) (J : Hp) (S : SL) (u : Nat → V) (zs : List Fz) (J' : Hp) : Prop := ∃ σ0 H0 I Φ, HoldF g B S σ0 I H0 Φ ∧ Ext B.I B.H I H0 ∧ Same J I ∧ J' = UnL I Φ (zs.map (·.j)) ∧ ∀ n v, σ0[n]? = some (some v) → u n = v
structure FzOk (S : SL) (z : Fz) : Prop where
  ex : ∃ k : RK, S[z.j]? = some (some k) ∧ k.orOf = z.o ∧ k.slotty = true
  f : Frz z.o z.p
def fzS (u : Nat → V) : List Fz → SL → SL
  | [], S => S
  | z :: zs, S => (fzS u zs S).set z.j (some (.im (pinP (u z.j) z.p)))
def thS : List Fz → Nat → SL
  | [], n => List.replicate n none
  | z :: zs, n => (thS zs n).set z.j (some (.ow z.o))
section
variable {X : Cx} {g : Gb} {B : Bs} {J : Hp} {S : SL} {o : Type} {K : KT o} {m : Option o} {sts rest : List Stmt} {I H : Hp} {σ : L2.St} {Φ : Nat → Hp}
end
def pinK (u : V) (p : PR) : RK := .im (pinP u p)
section
variable {X : Cx} {g : Gb} {B : Bs} {J : Hp} {S : SL} {e e1 e2 e3 : Expr} {pos pos' p p2 p3 apos cpos : Pos} {o ι : Type} {K : KT o} {rest : List Stmt} {α β : Type} [Py α] [Py β]
/-- a list of which no more is known than its length; nothing known -/
def oLen (n : Nat) : OR := ⟨fun _ F v => ∃ l vs, v = .ref l ∧ F l = some (.lst vs) ∧ vs.length = n, fun _ h => h⟩
def oAny : OR := ⟨fun _ _ _ => True, fun _ _ => trivial⟩
@[irreducible] def roomO (b : Bool) : Option Unit := if b = true then some () else none
end
/-- y with its rows, each of which may grow by r items -/
def oRow (L : Addr) (vs : List V) (r : Nat) : OR := ⟨fun _ F v => v = .ref L ∧ F L = some (.lst vs) ∧ ∀ u ∈ vs, ∃ l ws, u = .ref l ∧ l ≠ L ∧ F l = some (.lst ws) ∧ ws.length + r ≤ sizeLine, fun _ h => h⟩
theorem Hold.drop {g : Gb} {B : Bs} {S : SL} {σ : L2.St} {I H : Hp} (t : Nat) (h : Hold g B S σ I H) : Hold g B (S.set t none) σ I H := by
  obtain ⟨Φ, h⟩ := h
  refine ⟨Φ, by rw [List.length_set]; exact h.len, h.sub, h.base, h.tb, fun j k e => ?_, h.fr, h.dj⟩
  rcases set_some e with ⟨_, b, _⟩ | ⟨_, b⟩
  · cases b
  · exact h.at_ j k b
theorem Hold.ow {g : Gb} {B : Bs} {S : SL} {σ : L2.St} {I H : Hp} {i : Nat} {o o' : OR} (h : Hold g B S σ I H) (hS : S[i]? = some (some (.ow o))) (f : ∀ v F, o.p I F v → o'.p I F v) : Hold g B (S.set i (some (.ow o'))) σ I H := by
  obtain ⟨Φ, h⟩ := h
  refine ⟨Φ, by rw [List.length_set]; exact h.len, h.sub, h.base, h.tb, fun j k e => ?_, h.fr, h.dj⟩
  rcases set_some e with ⟨a, b, _⟩ | ⟨_, b⟩
  · subst a
    cases b
    obtain ⟨v, e1, h1⟩ := h.at_ _ _ hS
    exact ⟨v, e1, f v _ h1⟩
  · exact h.at_ j k b
section
variable {X : Cx} {g : Gb} {B : Bs} {J : Hp} {S : SL} {e e1 e2 e3 : Expr} {pos pos' p p2 p3 apos cpos : Pos} {o ι : Type} {K : KT o} {rest : List Stmt} {α β : Type} [Py α] [Py β]
def turnA (g : Gb) (B : Bs) (S : SL) (i t : Nat) : TS := fun D σ H => ∃ J I u L vs r, u ∈ vs ∧ Ok g B J ((S.set i (some (.ow (oRow L vs (r + 1))))).set t (some (.im (eqP u)))) σ I H ∧ ∀ σ I H, Ok g B J ((S.set i (some (.ow (oRow L vs r)))).set t (some (.im (eqP u)))) σ I H → D.nx σ H
end
end T
set_option Elab.async false
set_option linter.all false
set_option maxRecDepth 100000
namespace T
variable [TabsC]
open PySem PySem.Spec PyProof.Rows L2
/-! max, min of a list -/
@[irreducible] def maxO : List Int → Option Int
  | [] => none
  | x :: xs => some (xs.foldl max x)
@[irreducible] def minO : List Int → Option Int
  | [] => none
  | x :: xs => some (xs.foldl min x)
section
variable {X : Cx} {g : Gb} {B : Bs} {J : Hp} {S : SL} {e e1 e2 e3 tg : Expr} {es : List Expr} {pos pos' p : Pos}
end
end T
set_option Elab.async false
set_option linter.all false
set_option maxRecDepth 100000
namespace T
variable [TabsC]
open PySem PySem.Spec PyProof.Rows L2
/-! lists of things of one's own -/
theorem Hold.cv {g : Gb} {B : Bs} {S : SL} {σ : L2.St} {I H : Hp} (i : Nat) {k k' : RK} (h : Hold g B S σ I H) (hS : S[i]? = some (some k)) (f : ∀ v F, RK.inS g k B.H v I F → RK.inS g k' B.H v I F) : Hold g B (S.set i (some k')) σ I H := by
  obtain ⟨Φ, h⟩ := h
  refine ⟨Φ, by rw [List.length_set]; exact h.len, h.sub, h.base, h.tb, fun j kk e => ?_, h.fr, h.dj⟩
  rcases set_some e with ⟨a, b, _⟩ | ⟨_, b⟩
  · subst a
    cases b
    obtain ⟨v, e1, h1⟩ := h.at_ _ _ hS
    exact ⟨v, e1, f v _ h1⟩
  · exact h.at_ j kk b
section
variable {X : Cx} {g : Gb} {B : Bs} {J : Hp} {S : SL} {e e1 e2 e3 tg : Expr} {pos pos' p p2 p3 apos cpos : Pos} {o ι ρ : Type} {K : KT o} {rest sts : List Stmt} {α β γ : Type} [Py α] [Py β] [Py γ] {i : Nat} {m : Option ι} {mk : ι → OR → OR}
/-- an owned thing handed back by its name -/
theorem mb_retOw {x : Str} (i : Nat) {k : ρ → RK} {inj : ρ → o} {r : ρ} {o1 : OR} (kr : KR g B K inj k) (hk : k r = .ow o1 := by rfl) (hS : S[i]? = some (some (.ow o1)) := by rfl) (hN : X.N[i]? = some x := by rfl) (hv : Vis X.env.scope x := by first | exact Or.inl rfl | exact Or.inr (Or.inl rfl) | exact Or.inr (Or.inr rfl))
    (hd : (x == ("__debug__" : Str)) = false := by decide) (hcd : (x == ("__classdict__" : Str)) = false := by decide) : MB X g B J S [.Return (some (.Name x p)) pos] (some (inj r)) K := by
  refine ⟨fun r' q => ?_⟩
  cases q
  refine pss_imp (pss_one (ps_ret (pe_var hN hv hd hcd))) fun D σ H ⟨I, ok, kk⟩ => ?_
  obtain ⟨v, e1, h1⟩ := ok.h.at_ i _ hS
  exact ⟨v, e1, kr r D kk v I H ok.x (by rw [hk]; exact h1)⟩
end
end T
set_option Elab.async false
set_option linter.all false
set_option maxRecDepth 100000
namespace T
variable [TabsC]
open PySem PySem.Spec PyProof.Rows L2
/-! lists of ints that are new since a def began, seen in a walk, handed back within a tuple -/
def Fs (H0 : Hp) (α : Type) : Type := α
def frsP (g : Gb) (H0 : Hp) (as : List Int) : PR := ⟨fun I v => ∃ l vs, v = .ref l ∧ I l = some (.lst vs) ∧ H0 l = none ∧ (rl g as).p I vs, fun s ⟨l, vs, e, h1, h2, h3⟩ => ⟨l, vs, e, s _ _ h1, h2, (rl g as).mono s h3⟩⟩
instance {H0 : Hp} : Py (Fs H0 (List Int)) := ⟨fun g (as : List Int) => frsP g H0 as⟩
def oFh (H0 : Hp) (q : PL) : OR := ⟨fun I F v => (oF q).p I F v ∧ ∀ a, F a ≠ none → H0 a = none, fun s h => ⟨(oF q).mono s h.1, h.2⟩⟩
section
variable {X : Cx} {g : Gb} {B : Bs} {J : Hp} {S : SL} {e e1 e2 e3 tg : Expr} {pos pos' p p2 p3 apos cpos : Pos} {o ι ρ : Type} {K : KT o} {rest sts : List Stmt} {α β γ : Type} [Py α] [Py β] [Py γ] {i : Nat}
/-- an owned thing or None -/
def oOpt {α' : Type} (k : α' → OR) : Option α' → OR
  | none => ⟨fun _ _ v => v = .non, fun _ h => h⟩
  | some a => k a
def FlatP (r : PR) : Prop := ∀ I I' v, r.p I v → r.p I' v
/-- the part that stays, without l -/
def Les (I : Hp) (l : Addr) : Hp := fun a => if a = l then none else I a
def two (p l : Addr) (ob ol : HO) : Hp := fun a => if a = p then some ob else if a = l then some ol else none
end
/-! the same slots, written out -/
theorem mb_eqS {X : Cx} {g : Gb} {B : Bs} {J : Hp} {S S' : SL} {o : Type} {K : KT o} {sts : List Stmt} {m : Option o} (h : S = S') (hb : MB X g B J S' sts m K) : MB X g B J S sts m K := h ▸ hb
/-! a def: what is known of its heaps at its begin -/
section
variable {P : Program} {w : World} {K : PySem.W.Frag} {mg : Str → Option Value} {base : Heap} {ι o : Type} {args : ι → List RK} {M : ι → Option o} {kd : o → RK}
end
end T
set_option Elab.async false
set_option linter.all false
set_option maxRecDepth 100000
namespace T
variable [TabsC]
open PySem PySem.Spec PyProof.Rows L2
/-! data of any form -/
instance instPyDy : Py PyData := ⟨fun g d => ⟨fun I v => Dp g.K I v d, fun s h => dp_mono s h⟩⟩
theorem dp_paired {g : Gb} {I : Hp} : ∀ {ds : List PyData} {vs : List V}, DpAll g.K I vs ds → Paired (fun d v => (Py.r g d).p I v) ds vs
  | [], _, h => by cases h; exact .nil
  | d :: ds, _, h => by cases h with | cons h1 h2 => exact .cons h1 (dp_paired h2)
theorem dpAll_len {K : PySem.W.Frag} {I : Hp} : ∀ {ds : List PyData} {vs : List V}, DpAll K I vs ds → vs.length = ds.length
  | [], _, h => by cases h; rfl
  | d :: ds, _, h => by cases h with | cons h1 h2 => rw [List.length_cons, List.length_cons, dpAll_len h2]
theorem dpAll_get {K : PySem.W.Frag} {I : Hp} : ∀ {ds : List PyData} {vs : List V} {i : Nat} {d : PyData}, DpAll K I vs ds → ds[i]? = some d → ∃ v, vs[i]? = some v ∧ Dp K I v d
  | [], _, i, d, h, e => by simp at e
  | x :: ds, _, 0, d, h, e => by cases h with | cons h1 h2 => cases e; exact ⟨_, rfl, h1⟩
  | x :: ds, _, i + 1, d, h, e => by cases h with | cons h1 h2 => exact dpAll_get h2 (i := i) (by simpa using e)
def isiD_list : PyData → Bool | .list _ => true | _ => false
def isiD_tuple : PyData → Bool | .tuple _ => true | _ => false
def isiD_str : PyData → Bool | .str _ => true | _ => false
def isiD_bool : PyData → Bool | .bool _ => true | _ => false
def isiD_int : PyData → Bool | .bool _ => true | .int _ => true | _ => false
def isND : PyData → Bool | .none => true | _ => false
def tyD : PyData → Value
  | .none => .type "NoneType"
  | .bool _ => .type "bool"
  | .int _ => .type "int"
  | .str _ => .type "str"
  | .list _ => .type "list"
  | .tuple _ => .type "tuple"
  | .dict _ => .type "dict"
@[irreducible] def eqDO (a b : PyData) : Option Bool := if (a.plain && b.plain && decide (a.depth ≤ 64)) = true then some (PyData.eqv a b) else none
@[irreducible] def lenDO : PyData → Option Int
  | .list xs => some (xs.length : Int)
  | .tuple xs => some (xs.length : Int)
  | _ => none
@[irreducible] def atDO : PyData → Int → Option PyData
  | .list xs, i => atI xs i
  | .tuple xs, i => atI xs i
  | _, _ => none
@[irreducible] def zipDO : PyData → PyData → Option (List (T2 PyData PyData))
  | .list xs, .list ys => if decide (xs.length ≤ sizeLine ∧ ys.length ≤ sizeLine) = true then some (zipL xs ys) else none
  | .tuple xs, .tuple ys => if decide (xs.length ≤ sizeLine ∧ ys.length ≤ sizeLine) = true then some (zipL xs ys) else none
  | _, _ => none
@[irreducible] def asInt : PyData → Option Int | .int i => some i | _ => none
@[irreducible] def asBool : PyData → Option Bool | .bool i => some i | _ => none
@[irreducible] def asStr : PyData → Option Str | .str i => some i | _ => none
@[irreducible] def asOInt : PyData → Option (Option Int) | .int i => some (some i) | .none => some none | _ => none
section
variable {X : Cx} {g : Gb} {B : Bs} {J : Hp} {S : SL} {e e1 e2 e3 tg : Expr} {pos pos' p p2 p3 tpos : Pos} {α β : Type} [Py α] [DecidableEq α] [Pd α] [Py β]
open PySem.W
theorem me_toD {m : Option α} (h : ME X g B S e m (KI g)) : ME X g B S e (m >>= fun a => some (Datum.toD a)) (KI (α := PyData) g) := by
  refine ⟨fun d q => ?_⟩
  obtain ⟨a, q1, q2⟩ := bind_some q
  cases q2
  exact pe_imp (h.run a q1) fun σ H Q ⟨I, hh, k⟩ => ⟨I, hh, fun v I' H' x hv => k v I' H' x (Pd.dp hv)⟩
theorem me_asInt {m : Option PyData} (h : ME X g B S e m (KI g)) : ME X g B S e (m >>= fun d => asInt d) (KI g) := by
  refine ⟨fun i q => ?_⟩
  obtain ⟨d, q1, q2⟩ := bind_some q
  unfold asInt at q2
  refine pe_imp (h.run d q1) fun σ H Q ⟨I, hh, k⟩ => ⟨I, hh, fun v I' H' x hv => k v I' H' x ?_⟩
  cases d <;> cases q2
  cases (show Dp g.K I' v _ from hv); rfl
theorem me_asBool {m : Option PyData} (h : ME X g B S e m (KI g)) : ME X g B S e (m >>= fun d => asBool d) (KI g) := by
  refine ⟨fun i q => ?_⟩
  obtain ⟨d, q1, q2⟩ := bind_some q
  unfold asBool at q2
  refine pe_imp (h.run d q1) fun σ H Q ⟨I, hh, k⟩ => ⟨I, hh, fun v I' H' x hv => k v I' H' x ?_⟩
  cases d <;> cases q2
  cases (show Dp g.K I' v _ from hv); rfl
theorem me_asOInt {m : Option PyData} (h : ME X g B S e m (KI g)) : ME X g B S e (m >>= fun d => asOInt d) (KI g) := by
  refine ⟨fun i q => ?_⟩
  obtain ⟨d, q1, q2⟩ := bind_some q
  unfold asOInt at q2
  refine pe_imp (h.run d q1) fun σ H Q ⟨I, hh, k⟩ => ⟨I, hh, fun v I' H' x hv => k v I' H' x ?_⟩
  cases d <;> cases q2
  · cases (show Dp g.K I' v _ from hv); rfl
  · cases (show Dp g.K I' v _ from hv); rfl
theorem tg_dy : TG g (KI (α := PyData) g) tyD := fun a H0 v I H s h => by
  have h := dp_mono s (show Dp g.K I v a from h)
  cases h with
  | non => exact .base .non
  | bl b => exact .base (.bl b)
  | int i => exact .base (.int i)
  | str x => exact .base (.str x)
  | lst h1 _ => exact tyx_sq h1
  | tup h1 _ => exact tyx_tq h1
theorem mc_isND {j} {m : Option PyData} (h : ME X g B S e m (KI g)) : MC X g B S (.Compare e [.Is] [.Constant .none j pos'] pos) (m >>= fun d => some (isND d)) :=
  (mc_cmp op_isN h (me_unit (j := j) (pos := pos')) (f := fun d _ => some (isND d)) fun d _ c q v w I H H0 H1 Q s hv hw k => by
    cases q
    refine ⟨hw, ?_⟩
    have hv : Dp g.K I v d := hv
    cases hv with
    | non => exact k _ _ _ (Ext.refl s) rfl
    | bl b => exact k _ _ _ (Ext.refl s) rfl
    | int i => exact k _ _ _ (Ext.refl s) rfl
    | str x => exact k _ _ _ (Ext.refl s) rfl
    | lst h1 _ => exact k _ _ _ (Ext.refl s) rfl
    | tup h1 _ => exact k _ _ _ (Ext.refl s) rfl).eq (by cases m <;> rfl)
theorem mc_eqD {m1 m2 : Option PyData} (hu : X.A.units + 64 < cLine) (h1 : ME X g B S e1 m1 (KI g)) (h2 : ME X g B S e2 m2 (KI g)) (hg : X.K = g.K := by rfl) : MC X g B S (.Compare e1 [.Eq] [e2] pos) (m1 >>= fun a => m2 >>= fun b => eqDO a b) :=
  mc_cmp (op_eqP hu) h1 h2 (fun a b c q v w I H H0 H1 Q s v1 v2 k => by
    unfold eqDO at q
    by_cases hz : (a.plain && b.plain && decide (a.depth ≤ 64)) = true
    · rw [if_pos hz] at q
      cases q
      rw [Bool.and_eq_true, Bool.and_eq_true] at hz
      exact ⟨a, b, by rw [hg]; exact dp_mono s v1, by rw [hg]; exact dp_mono s v2, hz.1.1, hz.1.2, of_decide_eq_true hz.2, k _ _ _ (Ext.refl s) rfl⟩
    · rw [if_neg hz] at q; cases q) (nomark _)
theorem mc_neD {m1 m2 : Option PyData} (hu : X.A.units + 64 < cLine) (h1 : ME X g B S e1 m1 (KI g)) (h2 : ME X g B S e2 m2 (KI g)) (hg : X.K = g.K := by rfl) : MC X g B S (.Compare e1 [.NotEq] [e2] pos) (m1 >>= fun a => m2 >>= fun b => eqDO a b >>= fun c => some (!c)) :=
  mc_cmp (op_neP hu) h1 h2 (f := fun a b => eqDO a b >>= fun c => some (!c)) (fun a b c q v w I H H0 H1 Q s v1 v2 k => by
    obtain ⟨c', q1, q2⟩ := bind_some q
    cases q2
    unfold eqDO at q1
    by_cases hz : (a.plain && b.plain && decide (a.depth ≤ 64)) = true
    · rw [if_pos hz] at q1
      cases q1
      rw [Bool.and_eq_true, Bool.and_eq_true] at hz
      exact ⟨a, b, by rw [hg]; exact dp_mono s v1, by rw [hg]; exact dp_mono s v2, hz.1.1, hz.1.2, of_decide_eq_true hz.2, k _ _ _ (Ext.refl s) rfl⟩
    · rw [if_neg hz] at q1; cases q1) (nomark _)
theorem me_lenD {m : Option PyData} (hm : X.mg "len" = none) (h : ME X g B S e m (KI g)) (hg : Gl X "len" := by rfl) (hK : X.K = g.K := by rfl) (he : starEach [e] X.env = (false, eval e X.env) :: starEach [] X.env := by rfl) (hpl : (backTo pos (starEach [] X.env)).any (·.1) = false := by rfl) :
    ME X g B S (.Call (.Name "len" p) [e] [] pos) (m >>= fun d => lenDO d) (KI g) := by
  refine ⟨fun r q => ?_⟩
  obtain ⟨a, q1, q2⟩ := bind_some q
  unfold lenDO at q2
  refine pe_imp (pe_callB call_len_seq hg hm PySem.boot_len (pa_cons (h.run a q1) pa_nil he) (he := he) (hpl := hpl)) fun σ H Q ⟨I, hh, kk⟩ => ⟨I, hh, fun v I' H' x hv => ?_⟩
  have hv := dp_mono x.s (show Dp g.K I' v a from hv)
  cases a <;> cases q2
  · cases hv with
    | lst h1 h2 => exact ⟨_, _, rfl, by rw [hK]; exact .inl h1, by rw [dpAll_len h2]; exact kk _ I' H' x rfl⟩
  · cases hv with
    | tup h1 h2 => exact ⟨_, _, rfl, by rw [hK]; exact .inr h1, by rw [dpAll_len h2]; exact kk _ I' H' x rfl⟩
theorem dp_back {K : PySem.W.Frag} {I : Hp} {ds : List PyData} {vs : List V} {i : Int} {d : PyData} (h : DpAll K I vs ds) (e : atI ds i = some d) : ∃ v, atI vs i = some v ∧ Dp K I v d := by
  obtain ⟨j, e1, e2⟩ := atI_ix e
  obtain ⟨v, e3, q⟩ := dpAll_get h e2
  refine ⟨v, ?_, q⟩
  unfold atI
  rw [dpAll_len h, e1]
  exact e3
theorem me_atD {m : Option PyData} {m2 : Option Int} (h1 : ME X g B S e1 m (KI g)) (h2 : ME X g B S e2 m2 (KI g)) (hK : X.K = g.K := by rfl) (hs : PlainIx e2 := by exact fun _ _ => rfl) : ME X g B S (.Subscript e1 e2 pos) (m >>= fun d => m2 >>= fun i => atDO d i) (KI g) := by
  refine ⟨fun a q => ?_⟩
  obtain ⟨d, q1, q⟩ := bind_some q
  obtain ⟨i, q2, q3⟩ := bind_some q
  unfold atDO at q3
  refine pe_imp (pe_ix (ix_list.or ix_tup) (h1.run d q1) (h2.run i q2) hs) fun σ H Q ⟨I, hh, kk⟩ => ⟨I, hh, fun v I' H' x hv => ⟨I', hh.ext x, fun w I2 H2 x2 hw => ?_⟩⟩
  have hv := dp_mono x2.i (show Dp g.K I' v d from hv)
  cases d <;> try (cases q3; done)
  · cases hv with
    | lst h3 h4 =>
      obtain ⟨u, hu, hq⟩ := dp_back h4 q3
      exact .inl ⟨_, _, i, u, rfl, hw, by rw [hK]; exact x2.s.seq h3, hu, kk u I2 H2 (x.trans x2) hq⟩
  · cases hv with
    | tup h3 h4 =>
      obtain ⟨u, hu, hq⟩ := dp_back h4 q3
      exact .inr ⟨_, _, i, u, rfl, hw, by rw [hK]; exact seqT x2.s h3, hu, kk u I2 H2 (x.trans x2) hq⟩
end
theorem kitD_list {K : PySem.W.Frag} : ∀ a, PySem.W.kitOne K (tyD a) (.type "list") = some (isiD_list a)
  | .none => kit_ty (a := "NoneType") (b := "list") (r := false) (by decide +kernel)
  | .bool _ => kit_ty (a := "bool") (b := "list") (r := false) (by decide +kernel)
  | .int _ => kit_ty (a := "int") (b := "list") (r := false) (by decide +kernel)
  | .str _ => kit_ty (a := "str") (b := "list") (r := false) (by decide +kernel)
  | .list _ => kit_ty (a := "list") (b := "list") (r := true) (by decide +kernel)
  | .tuple _ => kit_ty (a := "tuple") (b := "list") (r := false) (by decide +kernel)
  | .dict _ => kit_ty (a := "dict") (b := "list") (r := false) (by decide +kernel)
theorem kitD_tuple {K : PySem.W.Frag} : ∀ a, PySem.W.kitOne K (tyD a) (.type "tuple") = some (isiD_tuple a)
  | .none => kit_ty (a := "NoneType") (b := "tuple") (r := false) (by decide +kernel)
  | .bool _ => kit_ty (a := "bool") (b := "tuple") (r := false) (by decide +kernel)
  | .int _ => kit_ty (a := "int") (b := "tuple") (r := false) (by decide +kernel)
  | .str _ => kit_ty (a := "str") (b := "tuple") (r := false) (by decide +kernel)
  | .list _ => kit_ty (a := "list") (b := "tuple") (r := false) (by decide +kernel)
  | .tuple _ => kit_ty (a := "tuple") (b := "tuple") (r := true) (by decide +kernel)
  | .dict _ => kit_ty (a := "dict") (b := "tuple") (r := false) (by decide +kernel)
theorem kitD_str {K : PySem.W.Frag} : ∀ a, PySem.W.kitOne K (tyD a) (.type "str") = some (isiD_str a)
  | .none => kit_ty (a := "NoneType") (b := "str") (r := false) (by decide +kernel)
  | .bool _ => kit_ty (a := "bool") (b := "str") (r := false) (by decide +kernel)
  | .int _ => kit_ty (a := "int") (b := "str") (r := false) (by decide +kernel)
  | .str _ => kit_ty (a := "str") (b := "str") (r := true) (by decide +kernel)
  | .list _ => kit_ty (a := "list") (b := "str") (r := false) (by decide +kernel)
  | .tuple _ => kit_ty (a := "tuple") (b := "str") (r := false) (by decide +kernel)
  | .dict _ => kit_ty (a := "dict") (b := "str") (r := false) (by decide +kernel)
theorem kitD_bool {K : PySem.W.Frag} : ∀ a, PySem.W.kitOne K (tyD a) (.type "bool") = some (isiD_bool a)
  | .none => kit_ty (a := "NoneType") (b := "bool") (r := false) (by decide +kernel)
  | .bool _ => kit_ty (a := "bool") (b := "bool") (r := true) (by decide +kernel)
  | .int _ => kit_ty (a := "int") (b := "bool") (r := false) (by decide +kernel)
  | .str _ => kit_ty (a := "str") (b := "bool") (r := false) (by decide +kernel)
  | .list _ => kit_ty (a := "list") (b := "bool") (r := false) (by decide +kernel)
  | .tuple _ => kit_ty (a := "tuple") (b := "bool") (r := false) (by decide +kernel)
  | .dict _ => kit_ty (a := "dict") (b := "bool") (r := false) (by decide +kernel)
theorem kitD_int {K : PySem.W.Frag} : ∀ a, PySem.W.kitOne K (tyD a) (.type "int") = some (isiD_int a)
  | .none => kit_ty (a := "NoneType") (b := "int") (r := false) (by decide +kernel)
  | .bool _ => kit_ty (a := "bool") (b := "int") (r := true) (by decide +kernel)
  | .int _ => kit_ty (a := "int") (b := "int") (r := true) (by decide +kernel)
  | .str _ => kit_ty (a := "str") (b := "int") (r := false) (by decide +kernel)
  | .list _ => kit_ty (a := "list") (b := "int") (r := false) (by decide +kernel)
  | .tuple _ => kit_ty (a := "tuple") (b := "int") (r := false) (by decide +kernel)
  | .dict _ => kit_ty (a := "dict") (b := "int") (r := false) (by decide +kernel)
/-! a written power -/
section
variable {X : Cx} {g : Gb} {B : Bs} {S : SL} {e1 e2 : Expr} {pos : Pos}
theorem me_powC {n k v : Int} (hc : decide (0 ≤ k ∧ k ≤ 1000000 ∧ n.natAbs < 2 ^ 64) = true) (hv : n ^ k.toNat = v) (h1 : ME X g B S e1 (some n) (KI g)) (h2 : ME X g B S e2 (some k) (KI g)) : ME X g B S (.BinOp e1 .Pow e2 pos) (some v) (KI g) := by
  refine (me_i1 (D := fun i j => decide (0 ≤ j ∧ j ≤ 1000000 ∧ i.natAbs < 2 ^ 64)) op_pow (fun i j h => (show 0 ≤ j ∧ j ≤ 1000000 ∧ i.natAbs < 2 ^ 64 from of_decide_eq_true h)) h1 h2).eq ?_
  show (if decide (0 ≤ k ∧ k ≤ 1000000 ∧ n.natAbs < 2 ^ 64) = true then some (n ^ k.toNat) else none) = some v
  rw [hc, if_pos rfl, hv]
end
/-! zip of two -/
section
variable {X : Cx} {g : Gb} {B : Bs} {J : Hp} {S : SL} {e e1 e2 e3 tg : Expr} {pos pos' p p2 p3 tpos : Pos}
theorem walk_zipT {as bs : List PyData} {a b : Addr} {vs ws : List V} {I1 : Hp} (hL : SqT g.K I1 a vs) (hR : (rl g as).p I1 vs) (hL2 : SqT g.K I1 b ws) (hR2 : (rl g bs).p I1 ws) : WalkI g B (RZ.ItzT g.K a b) (zipL as bs) I1 where
  go := fun i x I2 H2 e s1 s2 s3 => by
    obtain ⟨c, d, e1, e2, _⟩ := zip_get e
    obtain ⟨v, e3, _⟩ := paired_get hR.2 e1
    obtain ⟨w, e4, _⟩ := paired_get hR2.2 e2
    exact ⟨vs, ws, v, w, seqT (s1.trans s2) hL, seqT (s1.trans s2) hL2, e3, e4⟩
  yl := fun i x I2 H2 v H' e s1 s2 s3 y => by
    obtain ⟨c, d, e1, e2, rfl⟩ := zip_get e
    obtain ⟨u, e3, q⟩ := paired_get hR.2 e1
    obtain ⟨u2, e4, q2⟩ := paired_get hR2.2 e2
    obtain ⟨T, x, x2, rfl, hT, rfl, y1, y2⟩ := y
    have e5 := y1 vs (seqT (s1.trans s2) hL)
    have e6 := y2 ws (seqT (s1.trans s2) hL2)
    rw [e3] at e5
    rw [e4] at e6
    cases e5
    cases e6
    have sT := s1.trans (same_new (o := .tup [u, u2]) (s2.free hT))
    exact ⟨_, new_tup s2 hT, T, _, _, rfl, SqT.of upd_same, (Py.r g c).mono sT q, (Py.r g d).mono sT q2⟩
  st := fun I2 H2 s1 s2 s3 => ⟨vs, ws, seqT (s1.trans s2) hL, seqT (s1.trans s2) hL2, by
    rw [zip_len, rl_len hR, rl_len hR2]
    omega⟩
  len := by
    rw [zip_len]
    have := hR.1
    omega
theorem mi_zipD {elts : List Expr} {kk : Nat} {m m2 : Option PyData} (hm : X.mg "zip" = none) (h : ME X g B S e m (KI g)) (h2 : ME X g B S e2 m2 (KI g)) (hg : Gl X "zip" := by rfl) (hK : X.K = g.K := by rfl) (hs : starEach [e, e2] X.env = (false, eval e X.env) :: starEach [e2] X.env := by rfl) (hs2 : starEach [e2] X.env = (false, eval e2 X.env) :: starEach [] X.env := by rfl) (hpl : (backTo pos (starEach [e2] X.env)).any (·.1) = false := by rfl) :
    MI X g B S (.Tuple elts kk tpos) (.Call (.Name "zip" p) [e, e2] [] pos) (m >>= fun as => m2 >>= fun bs => zipDO as bs) := by
  refine ⟨fun as q => ?_⟩
  obtain ⟨xs, q1, q⟩ := bind_some q
  obtain ⟨ys, q2, q3⟩ := bind_some q
  unfold zipDO at q3
  refine pi_imp (RZ.pi_zipA hg hm (pa_cons (h.run xs q1) (pa_cons (h2.run ys q2) pa_nil hs2) hs) hs hpl) fun σ H R ⟨I, hh, k⟩ => ⟨I, hh, fun v I1 H1 x1 hv => ⟨I1, hh.ext x1, fun w I2 H2 x2 hw => ?_⟩⟩
  have hv := dp_mono x2.i (show Dp g.K I1 v xs from hv)
  have hw : Dp g.K I2 w ys := hw
  cases xs <;> cases ys <;> try (cases q3; done)
  · rename_i zs _ ys _
    have q3 : (if decide (zs.length ≤ sizeLine ∧ ys.length ≤ sizeLine) = true then some (zipL zs ys) else none) = some as := q3
    by_cases hz : decide (zs.length ≤ sizeLine ∧ ys.length ≤ sizeLine) = true
    · rw [if_pos hz] at q3
      have hz := of_decide_eq_true hz
      cases q3
      cases hv with
      | lst a1 a2 =>
        cases hw with
        | lst b1 b2 => exact ⟨_, _, _, _, rfl, .inl ⟨by rw [hK]; exact x2.s.seq a1, by rw [hK]; exact x2.s.seq b1, by rw [hK]; exact k _ I2 H2 (x1.trans x2) (walk_zip (.inl a1) ⟨hz.1, dp_paired a2⟩ (.inl b1) ⟨hz.2, dp_paired b2⟩)⟩⟩
    · rw [if_neg hz] at q3; cases q3
  · rename_i zs _ ys _
    have q3 : (if decide (zs.length ≤ sizeLine ∧ ys.length ≤ sizeLine) = true then some (zipL zs ys) else none) = some as := q3
    by_cases hz : decide (zs.length ≤ sizeLine ∧ ys.length ≤ sizeLine) = true
    · rw [if_pos hz] at q3
      have hz := of_decide_eq_true hz
      cases q3
      cases hv with
      | tup a1 a2 =>
        cases hw with
        | tup b1 b2 => exact ⟨_, _, _, _, rfl, .inr ⟨by rw [hK]; exact seqT x2.s a1, by rw [hK]; exact seqT x2.s b1, by rw [hK]; exact k _ I2 H2 (x1.trans x2) (walk_zipT a1 ⟨hz.1, dp_paired a2⟩ b1 ⟨hz.2, dp_paired b2⟩)⟩⟩
    · rw [if_neg hz] at q3; cases q3
end
end T
set_option Elab.async false
set_option linter.all false
set_option maxRecDepth 100000
namespace T
variable [TabsC]
open PySem PySem.Spec PyProof.Rows L2
/-! lending, where things of one's own are made meanwhile -/
def RK.isOwn : RK → Bool
  | .fr _ => true
  | .ow _ => true
  | _ => false
inductive Back2 (g : Gb) (u : Nat → V) (BH : Hp) : Nat → SL → SL → SL → Prop
  | nil {n : Nat} : Back2 g u BH n [] [] []
  | no {n : Nat} {s : Option RK} {S T T' : SL} : Back2 g u BH (n + 1) S T T' → Back2 g u BH n (s :: S) (none :: T) (none :: T')
  | im {n : Nat} {s : Option RK} {p : PR} {S T T' : SL} : Back2 g u BH (n + 1) S T T' → Back2 g u BH n (s :: S) (some (.im p) :: T) (some (.im p) :: T')
  | hide {n : Nat} {k : RK} {S T T' : SL} : Back2 g u BH (n + 1) S T T' → Back2 g u BH n (some k :: S) (some (.im (eqP (u n))) :: T) (some k :: T')
  | lend {n : Nat} {k : RK} {q : PL} {S T T' : SL} : Back2 g u BH (n + 1) S T T' → Back2 g u BH n (some k :: S) (some (.im (lentP g (u n) BH q)) :: T) (some k :: T')
  | own {n : Nat} {s : Option RK} {k : RK} {S T T' : SL} (hk : k.isOwn = true) : Back2 g u BH (n + 1) S T T' → Back2 g u BH n (s :: S) (some k :: T) (some k :: T')
theorem Back2.len {g : Gb} {u : Nat → V} {BH : Hp} {n : Nat} {S T T' : SL} (h : Back2 g u BH n S T T') : T'.length = T.length := by
  induction h with
  | nil => rfl
  | no _ ih | im _ ih | hide _ ih | lend _ ih | own _ _ ih => simp [ih]
theorem Back2.at_ {g : Gb} {u : Nat → V} {BH : Hp} {n : Nat} {S T T' : SL} (h : Back2 g u BH n S T T') : ∀ (i : Nat) (k : RK), T'[i]? = some (some k) →
    (∃ p, k = .im p ∧ T[i]? = some (some (.im p))) ∨ (S[i]? = some (some k) ∧ ∃ p : PR, T[i]? = some (some (.im p)) ∧ ∀ I v, p.p I v → v = u (n + i)) ∨ (k.isOwn = true ∧ T[i]? = some (some k)) := by
  induction h with
  | nil => intro i k e; simp at e
  | @no n s S T T' _ ih =>
    intro i k e
    cases i with
    | zero => cases e
    | succ i =>
      have := ih i k e
      rwa [show n + 1 + i = n + (i + 1) by omega] at this
  | @im n s p S T T' _ ih =>
    intro i k e
    cases i with
    | zero => cases e; exact .inl ⟨p, rfl, rfl⟩
    | succ i =>
      have := ih i k e
      rwa [show n + 1 + i = n + (i + 1) by omega] at this
  | @hide n k0 S T T' _ ih =>
    intro i k e
    cases i with
    | zero => cases e; exact .inr (.inl ⟨rfl, _, rfl, fun I v h => h⟩)
    | succ i =>
      have := ih i k e
      rwa [show n + 1 + i = n + (i + 1) by omega] at this
  | @lend n k0 q S T T' _ ih =>
    intro i k e
    cases i with
    | zero => cases e; exact .inr (.inl ⟨rfl, _, rfl, fun I v h => h.1⟩)
    | succ i =>
      have := ih i k e
      rwa [show n + 1 + i = n + (i + 1) by omega] at this
  | @own n s k0 S T T' hk _ ih =>
    intro i k e
    cases i with
    | zero => cases e; exact .inr (.inr ⟨hk, rfl⟩)
    | succ i =>
      have := ih i k e
      rwa [show n + 1 + i = n + (i + 1) by omega] at this
section
variable {X : Cx} {g : Gb} {B : Bs} {J : Hp} {S : SL} {o : Type} {K : KT o} {m : Option o} {sts rest : List Stmt}
open Classical in
end
end T
set_option Elab.async false
set_option linter.all false
set_option maxRecDepth 100000
namespace T
variable [TabsC]
open PySem PySem.Spec PyProof.Rows L2
/-! a new instance, by a call with keywords alone -/
section
variable {X : Cx} {CX : CXT} {k : Nat} {f C : Addr} {fd : FuncData} {ps ks : List Str} {sp : Sp} {E : XK} {x : Str} {p pos : Pos} {kws : List Keyword} {tk : TA} {gl : List Value → List Value → List Value} {gV : List V → List V → List V}
def tMakeK0 (C : Addr) (m : Nat) (sp : Sp) (gV : List V → List V → List V) (E : XK) (tk : TA) : TE := fun σ H Q => tk σ H fun zs H2 => zs.length = m ∧ ∀ x dx, H2 x = none → H2 dx = none → dx ≠ x → sp (gV [.ref x] zs) (upd (upd H2 dx (.own x)) x (.ins C dx [])) (fun v H3 => v = .non ∧ Q (.ref x) H3) E
end
section
variable {X : Cx} {g : Gb} {B : Bs} {S : SL} {kws : List Keyword} {p pos : Pos} {ι o β ιX : Type} {args : ι → List RK} {M : ι → Option β} {argsX : ιX → List RK} {M' : ιX → Option β} {outs : β → List (Nat × OR)} {m : Option β} {j kk : Nat} {f C : Addr} {fd : FuncData} {ps ks : List Str} {x : Str} {gg : List Value → List Value → List Value} {gV : List V → List V → List V}
end
/-! in a tuple -/
section
variable {α τ : Type} [Py α] [DecidableEq α] [Pd α] [Py τ] [DecidableEq τ] [Pd τ] {X : Cx} {g : Gb} {B : Bs} {S : SL} {e1 e2 : Expr} {pos : Pos} {m1 : Option α} {m2 : Option τ}
open PySem.W
end
end T
set_option Elab.async false
set_option linter.all false
set_option maxRecDepth 100000
namespace T
variable [TabsC]
open PySem PySem.Spec PyProof.Rows L2
open PySem.SeqAt (EqAt RcAt RcNeAt)
/-! things that are surely equal: the same object, alike data, lists of such, part by part -/
inductive Sm (K : PySem.W.Frag) (H : Hp) : Nat → V → V → Prop
  | same {n : Nat} (a : Addr) : Sm K H n (.ref a) (.ref a)
  | data {n : Nat} {v w : V} {d : PyData} : Dp K H v d → Dp K H w d → d.plain = true → PyData.eqv d d = true → d.depth ≤ n → Sm K H n v w
  | lst {n : Nat} {a b : Addr} {xs ys : List V} : SqL K H a xs → SqL K H b ys → xs.length = ys.length → (∀ (i : Nat) (x y : V), xs[i]? = some x → ys[i]? = some y → Sm K H n x y) → Sm K H (n + 1) (.ref a) (.ref b)
theorem Sm.mono {K : PySem.W.Frag} {H H' : Hp} (s : Same H H') {n : Nat} {v w : V} (h : Sm K H n v w) : Sm K H' n v w := by
  induction h with
  | same a => exact .same a
  | data d1 d2 hp he hd => exact .data (dp_mono s d1) (dp_mono s d2) hp he hd
  | lst h1 h2 hl _ ih => exact .lst (s.seq h1) (s.seq h2) hl ih
theorem Sm.up {K : PySem.W.Frag} {H : Hp} {n : Nat} {v w : V} (h : Sm K H n v w) : ∀ {m : Nat}, n ≤ m → Sm K H m v w := by
  induction h with
  | same a => exact fun _ => .same a
  | data d1 d2 hp he hd => exact fun hm => .data d1 d2 hp he (Nat.le_trans hd hm)
  | lst h1 h2 hl _ ih =>
    intro m hm
    cases m with
    | zero => exact absurd hm (Nat.not_succ_le_zero _)
    | succ m => exact .lst h1 h2 hl fun i x y e1 e2 => ih i x y e1 e2 (Nat.le_of_succ_le_succ hm)
/-- two lists, surely equal -/
def SmTop (K : PySem.W.Frag) (H : Hp) (n : Nat) (v w : V) : Prop := ∃ a b xs ys, v = .ref a ∧ w = .ref b ∧ SqL K H a xs ∧ SqL K H b ys ∧ xs.length = ys.length ∧ ∀ (i : Nat) (x y : V), xs[i]? = some x → ys[i]? = some y → Sm K H n x y
theorem SmTop.to {K : PySem.W.Frag} {H : Hp} {n : Nat} {v w : V} (h : SmTop K H n v w) : Sm K H (n + 1) v w := by
  obtain ⟨a, b, xs, ys, rfl, rfl, h1, h2, hl, h⟩ := h
  exact .lst h1 h2 hl h
def rNeS (K : PySem.W.Frag) : R2 := fun x y H Q => SmTop K H 50 x y ∧ Q (.bl false) H
def rEqS (K : PySem.W.Frag) : R2 := fun x y H Q => SmTop K H 50 x y ∧ Q (.bl true) H
/-! lists whose very items are known -/
class Rf (α : Type) [Py α] : Prop where
  rf : ∀ {g : Gb} {a : α} {I : Hp} {v : V}, (Py.r g a).p I v → ∃ x, v = .ref x
def Vl (vs : List V) (α : Type) : Type := List α
def vlP {α : Type} [Py α] (g : Gb) (vs : List V) (as : List α) : PR := ⟨fun I v => ∃ l, v = .ref l ∧ SqL g.K I l vs ∧ (rl g as).p I vs, fun s ⟨l, e, h, q⟩ => ⟨l, e, s.seq h, (rl g as).mono s q⟩⟩
def vlL {α : Type} [Py α] (g : Gb) (vs : List V) (as : List α) : PL := ⟨fun I ws => ws = vs ∧ (rl g as).p I vs, fun s ⟨e, q⟩ => ⟨e, (rl g as).mono s q⟩⟩
instance {vs : List V} {α : Type} [Py α] : Py (Vl vs α) := ⟨fun g (as : List α) => vlP g vs as⟩
/-- the list's items are vs, all of them objects -/
def VR {α' : Type} (g : Gb) (vs : List V) (k : α' → RK) (a : α') : Prop := ∀ H v I' H', Same I' H' → RK.holds g (k a) H v I' H' → ∃ l, v = .ref l ∧ SqL g.K H' l vs ∧ ∀ x ∈ vs, ∃ b, x = V.ref b
section
variable {α : Type} [Py α] [Rf α] {g : Gb} {vs : List V} {as : List α}
end
/-- parts that are surely equal where their data are the same -/
def SmR (g : Gb) (rs : List PR) : Prop := ∀ r ∈ rs, ∀ (I : Hp) (v w : V), r.p I v → r.p I w → Sm g.K I 50 v w
section
variable {X : Cx} {g : Gb} {B : Bs} {J : Hp} {S : SL} {e e1 e2 e3 tg : Expr} {pos pos' p p2 p3 apos cpos : Pos} {o ι ρ : Type} {K : KT o} {rest sts : List Stmt} {α β γ : Type} [Py α] [Py β] [Py γ]
end
end T
set_option Elab.async false
set_option linter.all false
set_option maxRecDepth 100000
/-! sorted of a tuple of ints -/
namespace LT
open PySem PyProof.Rows
section
variable {prog : Program} {w : World} {A : Around} {E : Value → Shared → Prop} {s : Shared}
end
end LT
namespace T
variable [TabsC]
open PySem PySem.Spec PyProof.Rows L2
/-- membership, by the equality that is decided -/
abbrev memD {α : Type} [DecidableEq α] (a : α) (xs : List α) : Bool := decide (a ∈ xs)
def rSortT (K : PySem.W.Frag) : List V → Hp → VK → Prop := fun vs H Q => ∃ (a : Addr) (ns : List Int), vs = [V.ref a] ∧ SqT K H a (ns.map V.int) ∧ ns.length < 64 ∧
  ∀ (ms : List Int) (p : Addr), ms.Perm ns → ms.Pairwise (· ≤ ·) → H p = none → Q (.ref p) (upd H p (.lst (ms.map V.int)))
/-- ints, rising -/
def insI (a : Int) : List Int → List Int
  | [] => [a]
  | b :: bs => if a ≤ b then a :: b :: bs else b :: insI a bs
def sortI : List Int → List Int
  | [] => []
  | a :: as => insI a (sortI as)
@[irreducible] def sortIO (xs : List Int) : Option (List Int) := if decide (xs.length < 64) = true then some (sortI xs) else none
@[irreducible] def cutDO : PyData → Option Int → Option Int → Option PyData
  | .tuple ds, lo, hi => some (.tuple (cutO ds lo hi))
  | _, _, _ => none
@[irreducible] def catDO : PyData → PyData → Option PyData
  | .tuple ds, .tuple es => if decide (ds.length + es.length ≤ sizeLine) = true then some (.tuple (ds ++ es)) else none
  | _, _ => none
section
variable {X : Cx} {g : Gb} {B : Bs} {J : Hp} {S : SL} {e e1 e2 e3 tg : Expr} {oe oe2 : Option Expr} {pos pos' p p2 p3 apos cpos : Pos} {o ι ρ : Type} {K : KT o} {rest sts : List Stmt} {α β γ : Type} [Py α] [Py β] [Py γ]
end
end T
set_option Elab.async false
set_option linter.all false
set_option maxRecDepth 100000
namespace T
variable [TabsC]
open PySem PySem.Spec PyProof.Rows L2
/-! tuples of ints, any number of them; dicts with such keys -/
structure TI where
  l : List Int
  deriving DecidableEq
instance : Py TI := ⟨fun g t => ⟨fun I v => ∃ p, v = .ref p ∧ I p = some (.tup (t.l.map V.int)), fun s ⟨p, e, h⟩ => ⟨p, e, s _ _ h⟩⟩⟩
instance : Nz TI := ⟨fun h z => by obtain ⟨p, rfl, _⟩ := h; cases z⟩
structure DT (β : Type) where
  kvs : List (List Int × β)
def inK (k : List Int) : List L2.Key := k.map Sum.inl
def KVs {β : Type} [Py β] (g : Gb) (I : Hp) (kvs : List (List Int × β)) (ws : List (List L2.Key × V)) : Prop := Paired (fun (kv : List Int × β) (kw : List L2.Key × V) => kw.1 = inK kv.1 ∧ (Py.r g kv.2).p I kw.2) kvs ws
theorem KVs.mono {β : Type} [Py β] {g : Gb} {I I' : Hp} {kvs : List (List Int × β)} {ws : List (List L2.Key × V)} (s : Same I I') (h : KVs g I kvs ws) : KVs g I' kvs ws :=
  L2.Paired.mapP h fun _ _ q => ⟨q.1, (Py.r g _).mono s q.2⟩
def rDT {β : Type} [Py β] (g : Gb) (x : DT β) : PR := ⟨fun I v => ∃ d ws, v = .ref d ∧ I d = some (.dT ws) ∧ KVs g I x.kvs ws, fun s ⟨d, ws, e, h, q⟩ => ⟨d, ws, e, s _ _ h, q.mono s⟩⟩
instance {β : Type} [Py β] : Py (DT β) := ⟨rDT⟩
instance {β : Type} [Py β] : Nz (DT β) := ⟨fun h z => by obtain ⟨d, ws, rfl, _⟩ := h; cases z⟩
def oDT {β : Type} [Py β] (g : Gb) (x : DT β) : OR := ⟨fun I F v => ∃ d ws, v = .ref d ∧ F d = some (.dT ws) ∧ KVs g I x.kvs ws, fun s ⟨d, ws, e, h, q⟩ => ⟨d, ws, e, h, q.mono s⟩⟩
def getK {β : Type} (kvs : List (List Int × β)) (k : List Int) : Option β := (kvs.find? fun kv => decide (kv.1 = k)).map (·.2)
def putKm {β : Type} (kvs : List (List Int × β)) (k : List Int) (b : β) : List (List Int × β) :=
  if (kvs.any fun kv => decide (kv.1 = k)) = true then kvs.map (fun kv => if kv.1 = k then (kv.1, b) else kv) else kvs ++ [(k, b)]
@[irreducible] def putKO {β : Type} (d : DT β) (k : TI) (b : β) : Option (DT β) := if decide (d.kvs.length < sizeLine) = true then some ⟨putKm d.kvs k.l b⟩ else none
section
variable {β : Type} [Py β] {g : Gb} {I : Hp}
end
section
variable {X : Cx} {g : Gb} {B : Bs} {J : Hp} {S : SL} {e e1 e2 e3 tg : Expr} {pos pos' p p2 p3 apos cpos : Pos} {o ι ρ : Type} {K : KT o} {rest sts : List Stmt} {α β γ : Type} [Py α] [Py β] [Py γ] {i : Nat} {m0 : Option ι} {mk : ι → OR → OR}
end
end T
set_option Elab.async false
set_option linter.all false
set_option maxRecDepth 100000
namespace T
variable [TabsC]
open PySem PySem.Spec PyProof.Rows L2
open PySem.W (Datum)
open PySem.W (alike alikeAll dataLt keyToks keyToksAll)
/-! a < b, of lists of ints, of pairs of an int and such a list -/
def ltL : List Int → List Int → Bool
  | [], [] => false
  | [], _ :: _ => true
  | _ :: _, [] => false
  | x :: r, y :: t => if x = y then ltL r t else decide (x < y)
def ltIL (a b : T2 Int (List Int)) : Bool := if a.x0 = b.x0 then ltL a.x1 b.x1 else decide (a.x0 < b.x0)
abbrev ktI (a : List Int) : List (Int ⊕ List Nat) := keyToksAll (a.map PyData.int)
/-- data that < orders, and how -/
def LtBy {α : Type} [DecidableEq α] [Datum α] (lt : α → α → Bool) : Prop := ∀ a b : α, alike (Datum.toD a) (Datum.toD b) = true ∧ Datum.toD a ≠ .none ∧ dataLt (Datum.toD a) (Datum.toD b) = lt a b
def rLtP (K : PySem.W.Frag) : R2 := fun x y H Q => ∃ d e, Dp K H x d ∧ Dp K H y e ∧ alike d e = true ∧ d ≠ .none ∧ d.depth ≤ 60 ∧ Q (.bl (dataLt d e)) H
section
variable {X : Cx} {g : Gb} {B : Bs} {S : SL} {e1 e2 : Expr} {pos : Pos} {α : Type} [Py α] [DecidableEq α] [Pd α] {m1 m2 : Option α} {k1 k2 : α → RK}
end
end T
set_option Elab.async false
set_option linter.all false
set_option maxRecDepth 100000
namespace T
variable [TabsC]
open PySem PySem.Spec PyProof.Rows L2 C8
open PySem.W (Datum)
open PySem.W (alike alikeAll dataLt dataLe AllAlike Sortable EachIs)
/-! isinstance of two own classes; sorted of a list of data of one form, any length -/
section
variable {X : Cx} {g : Gb} {B : Bs} {J : Hp} {S : SL} {e e1 e2 : Expr} {pos pos' p p2 p3 tpos : Pos} {α' : Type} {m1 : Option α'} {k1 : α' → RK}
end
/-- what sorted(list of data) gives: the items, in rising order -/
def sortD {α : Type} [DecidableEq α] [Datum α] (xs : List α) : List α := xs.mergeSort (dataLe false Datum.toD)
@[irreducible] def sortDO {α : Type} [DecidableEq α] [Datum α] (xs : List α) : Option (List α) := if decide (xs.length ≤ sizeLine) = true then some (sortD xs) else none
/-- the data of a type can be sorted -/
structure SrtBy (α : Type) [DecidableEq α] [Datum α] : Prop where
  al : ∀ a b : α, alike (Datum.toD a) (Datum.toD b) = true
  so : ∀ xs : List α, Sortable (xs.map Datum.toD)
def rSortP (α : Type) [Py α] [DecidableEq α] [Pd α] (K : PySem.W.Frag) : List V → Hp → VK → Prop := fun vs H Q => ∃ (a : Addr) (xs : List V) (bs : List α), vs = [V.ref a] ∧ SqL K H a xs ∧ Paired (fun b v => Dp K H v (Datum.toD b)) bs xs ∧ bs.length ≤ sizeLine ∧
  ∀ (ys : List V) (p : Addr), (∀ R : α → V → Prop, Paired R bs xs → Paired R (sortD bs) ys) → H p = none → Q (.ref p) (upd H p (.lst ys))
section
variable {X : Cx} {g : Gb} {B : Bs} {J : Hp} {S : SL} {e : Expr} {pos p : Pos} {α : Type} [Py α] [DecidableEq α] [Pd α]
end
end T
set_option Elab.async false
set_option linter.all false
set_option maxRecDepth 100000
namespace T
variable [TabsC]
open PySem PySem.Spec PyProof.Rows L2
section
variable {X : Cx} {g : Gb} {B : Bs} {S : SL} {e : Expr} {pos pos' : Pos}
end
end T
set_option Elab.async false
set_option linter.all false
set_option maxRecDepth 100000
set_option maxHeartbeats 2000000
namespace T
variable [TabsC]
open PySem PySem.Spec PyProof.Rows L2 C8
/-! an exception that is kept behind its suite -/
/-- at a: an exception that was caught; its class, its dict -/
def ExH (cls : Value) (d : Option Addr) (a : Addr) : HO := .ext fun h => ∃ (oe : Obj) (vs : Array Value), h.get? a = some oe ∧ Zc cls d oe ∧ oe.data = .fields vs
section
variable {X : Cx} {pins : List (Addr × Obj)} {σ : L2.St} {H : Hp} {s : Shared}
end
/-- what a clause 'except x as n' wishes of an exception of the body, that is kept: slot i is n's -/
def wAsK (K : PySem.W.Frag) (c : Value) (i : Nat) (ts : Addr → Value → Option Addr → TS) (Wout : WX) (D : Ends) : WX := fun cls d σ H =>
  ∃ b, PySem.W.exmOne K cls c = some b ∧ (b = true → ∀ a, H a = none → ts a cls d { nx := fun σ' H' => H' a = none → D.nx (σ'.set i none) (upd H' a (ExH cls d a)), rt := fun v H' => H' a = none → D.rt v (upd H' a (ExH cls d a)), bk := fun σ' H' => H' a = none → D.bk (σ'.set i none) (upd H' a (ExH cls d a)), ct := fun σ' H' => H' a = none → D.ct (σ'.set i none) (upd H' a (ExH cls d a)) } (σ.set i (some (.ref a))) H) ∧
    (b = false → Wout cls d σ H)
section
variable {X : Cx} {x n : Str} {c : Value} {i : Nat} {body suite : List Stmt} {b₀ : Stmt} {np pos pos' : Pos} {tb : WX → TS} {ts : Addr → Value → Option Addr → TS} {Wout : WX}
end
end T
set_option Elab.async false
set_option linter.all false
set_option maxRecDepth 100000
set_option maxHeartbeats 2000000
namespace T
variable [TabsC]
open PySem PySem.Spec PyProof.Rows L2
/-! defs that raise an own exception with fields -/
/-- an answer, or an exception -/
inductive Rz (β ε : Type) where
  | ok (b : β) | no (x : ε)
def okO {β ε : Type} : Rz β ε → Option β
  | .ok b => some b
  | .no _ => none
def noO {β ε : Type} : Rz β ε → Option ε
  | .ok _ => none
  | .no x => some x
def mapZ {β γ ε : Type} (f : β → γ) : Rz β ε → Rz γ ε
  | .ok b => .ok (f b)
  | .no x => .no x
abbrev XR := Value → Option Addr → Hp → Prop
/-- an exception of the class c, by its fields (the last one ahead) -/
def xnR (g : Gb) (c : Str) (names : List Str) (rs : List PR) : XR := fun cls d I => ∃ C dd vs, g.mg c = some (.ref C) ∧ cls = .ref C ∧ d = some dd ∧ I dd = some (.xd (names.zip vs)) ∧ names.length = vs.length ∧ Paired (fun (r : PR) v => r.p I v) rs vs
theorem xnR_mono {g : Gb} {c : Str} {names : List Str} {rs : List PR} {cls : Value} {d : Option Addr} {I I' : Hp} (s : Same I I') (h : xnR g c names rs cls d I) : xnR g c names rs cls d I' := by
  obtain ⟨C, dd, vs, h1, h2, h3, h4, h5, h6⟩ := h
  exact ⟨C, dd, vs, h1, h2, h3, s _ _ h4, h5, L2.Paired.mapP h6 fun r _ q => r.mono s q⟩
/-- .. caught, as a value -/
def rXn (g : Gb) (c : Str) (names : List Str) (rs : List PR) : PR where
  p := fun I v => ∃ a cls d, v = .ref a ∧ I a = some (ExH cls d a) ∧ xnR g c names rs cls d I
  mono := fun s ⟨a, cls, d, e, h1, h2⟩ => ⟨a, cls, d, e, s _ _ h1, xnR_mono s h2⟩
/-! the class's own __init__ : self.f1 = x; self.f2 = y -/
def spX2 (K : PySem.W.Frag) (C : Addr) (f1 f2 : Str) : Sp := fun vs H Q _ => ∃ a p q, vs = [.ref a, p, q] ∧ H a = some (exo a C none) ∧
  ∀ d, H d = none → d ≠ a → Q .non (upd (upd (upd H d (exd d [(f1, p)])) a (exo a C (some d))) d (exd d [(f2, q), (f1, p)]))
section
variable {P : Program} {w : World} {K : PySem.W.Frag} {mg : Str → Option Value} {base : Heap}
def Kx {β ε : Type} (g : Gb) (B : Bs) (k : β → RK) (xr : ε → XR) (E : XK) : KT (Rz β ε) := fun r D => match r with
  | .ok b => ∀ v I' H', Ext B.I B.H I' H' → RK.holds g (k b) B.H v I' H' → D.rt v H'
  | .no x => ∀ cls d I' H', Ext B.I B.H I' H' → xr x cls d I' → E cls d H'
def spX {ι β ε : Type} (g : Gb) (args : ι → List RK) (M : ι → Option (Rz β ε)) (k : β → RK) (xr : ε → XR) : Sp := fun vs H Q E => ∃ I a r, Same I H ∧ TbI I H ∧ Args g (args a) vs I H ∧ M a = some r ∧ match r with
  | .ok b => ∀ v I' H', Ext I H I' H' → RK.holds g (k b) H v I' H' → Q v H'
  | .no x => ∀ cls d I' H', Ext I H I' H' → xr x cls d I' → E cls d H'
variable {ι β ε : Type} {args : ι → List RK} {M : ι → Option (Rz β ε)} {kd : β → RK} {xr : ε → XR}
end
section
variable {X : Cx} {g : Gb} {B : Bs} {J : Hp} {S : SL} {e e1 : Expr} {es : List Expr} {pos pos' p p2 p3 : Pos} {o α' : Type} {K : KT o} {rest : List Stmt} {β ε : Type} {k : β → RK} {xr : ε → XR} {E : XK}
/-- K raises x at (inj x) -/
def KZ {ε : Type} (g : Gb) (B : Bs) (K : KT o) (inj : ε → o) (xr : ε → XR) (E : XK) : Prop := ∀ x D, K (inj x) D → ∀ cls d I' H', Ext B.I B.H I' H' → xr x cls d I' → E cls d H'
end
end T
set_option Elab.async false
set_option linter.all false
set_option maxRecDepth 100000
set_option maxHeartbeats 2000000
namespace T
variable [TabsC]
open PySem PySem.Spec PyProof.Rows L2
/-! an expression that may raise, in a try -/
def rdZ {α ε : Type} (g : Gb) (B : Bs) (S : SL) (r : Rz α ε) (k : α → RK) (xr : ε → XR) (W : WX) : TE := fun σ H Q => ∃ I, Hold g B S σ I H ∧ match r with
  | .ok a => ∀ v I' H', Ext I H I' H' → RK.holds g (k a) H v I' H' → Q v H'
  | .no x => ∀ cls d I' H', Ext I H I' H' → xr x cls d I' → W cls d σ H'
structure MZ {α ε : Type} (X : Cx) (g : Gb) (B : Bs) (S : SL) (e : Expr) (m : Option (Rz α ε)) (k : α → RK) (xr : ε → XR) (W : WX) : Prop where
  run : ∀ r, m = some r → PE X e (rdZ g B S r k xr W)
section
variable {X : Cx} {g : Gb} {B : Bs} {J : Hp} {S : SL} {e e1 : Expr} {es : List Expr} {pos pos' p p2 p3 : Pos} {o α' : Type} {K : KT o} {rest : List Stmt} {ι α β δ ε : Type} {args : ι → List RK} {M : ι → Option (Rz β ε)} {k : β → RK} {xr : ε → XR} {W : WX}
def okA {β ε : Type} (a : Option β) : Rz β ε → Option β
  | .ok b => some b
  | .no _ => a
def noA {β ε : Type} (a : Option ε) : Rz β ε → Option ε
  | .ok _ => a
  | .no x => some x
end
end T
set_option Elab.async false
set_option linter.all false
set_option maxRecDepth 100000
set_option maxHeartbeats 4000000
/-! isinstance of a caught exception that is kept; its fields -/
namespace PySem.W
open PySem PySem.Spec PySem.Calls PyProof.Rows
section
variable {prog : Program} {w : World} {A : Around} {E : Value → Shared → Prop} {s : Shared} {K : Frag} {x D : Addr} {ox : Obj} {od : Option Obj}
end
end PySem.W
namespace T
variable [TabsC]
open PySem PySem.Spec PyProof.Rows L2
/-- isinstance(x, c), x an exception of the class at D -/
def rIsX (K : PySem.W.Frag) (D : Addr) : List V → Hp → VK → Prop := fun xs H Q => ∃ (a : Addr) (d : Option Addr) (c : V) (cv : Value) (b : Bool), xs = [.ref a, c] ∧ H a = some (ExH (.ref D) d a) ∧ (d = none ∨ ∃ dd fs, d = some dd ∧ H dd = some (.xd fs)) ∧ (∀ u, RelV c u → u = cv) ∧ PySem.W.kitOne K (.ref D) cv = some b ∧ Q (.bl b) H
/-- all values of the type are exceptions of the class at D -/
def XcR (ε : Type) [Py ε] (g : Gb) (D : Addr) : Prop := ∀ (x : ε) I v, (Py.r g x).p I v → ∃ a d, v = .ref a ∧ I a = some (ExH (.ref D) d a) ∧ (d = none ∨ ∃ dd fs, d = some dd ∧ I dd = some (.xd fs))
section
variable {X : Cx} {g : Gb} {B : Bs} {J : Hp} {S : SL} {e : Expr} {pos pos' p p2 : Pos} {ε β : Type} [Py ε] [Py β] {m : Option ε} {D : Addr} {b : Bool}
/-- e.f, e a caught exception -/
def tXk (K : PySem.W.Frag) (f : Str) (te : TE) : TE := fun σ H Q => te σ H fun x H1 => ∃ a C dd fs v, x = .ref a ∧ H1 a = some (ExH (.ref C) (some dd) a) ∧ H1 dd = some (.xd fs) ∧ XfC K C ∧ PySem.W.findIn K (.ref C) f = some none ∧ fs.lookup f = some v ∧ Q v H1
/-- all values of the type have a field f -/
def XfR (ε β : Type) [Py ε] [Py β] (K : PySem.W.Frag) (g : Gb) (f : Str) (pr : ε → β) : Prop := ∀ (x : ε) I v, (Py.r g x).p I v → ∃ a C dd fs u, v = .ref a ∧ I a = some (ExH (.ref C) (some dd) a) ∧ I dd = some (.xd fs) ∧ XfC K C ∧ PySem.W.findIn K (.ref C) f = some none ∧ fs.lookup f = some u ∧ (Py.r g (pr x)).p I u
end
end T
set_option Elab.async false
set_option linter.all false
set_option maxRecDepth 100000
set_option maxHeartbeats 2000000
namespace T
variable [TabsC]
open PySem PySem.Spec PyProof.Rows L2
/-! what a generator wants of exceptions -/
section
variable {g : Gb} {c : Str} {names : List Str} {rs : List PR} {I : Hp} {v : V} {D : Addr} {K : PySem.W.Frag}
end
end T
set_option Elab.async false
set_option linter.all false
set_option maxRecDepth 100000
set_option maxHeartbeats 2000000
namespace T
variable [TabsC]
open PySem PySem.Spec PyProof.Rows L2
def rIsXT (K : PySem.W.Frag) (D : Addr) : List V → Hp → VK → Prop := fun xs H Q => ∃ (a tp : Addr) (d : Option Addr) (cs : List Addr) (b : Bool), xs = [.ref a, .ref tp] ∧ H tp = some (.tup (cs.map V.ref)) ∧ H a = some (ExH (.ref D) d a) ∧ (d = none ∨ ∃ dd fs, d = some dd ∧ H dd = some (.xd fs)) ∧ PySem.W.kitAny K (.ref D) (cs.map Value.ref) = some b ∧ Q (.bl b) H
section
variable {X : Cx} {g : Gb} {B : Bs} {J : Hp} {S : SL} {e : Expr} {es : List Expr} {pos pos' p p2 tpos : Pos} {n : Nat} {ε : Type} [Py ε] {m : Option ε} {D : Addr} {b : Bool}
end
end T
set_option Elab.async false
set_option linter.all false
set_option maxRecDepth 100000
set_option maxHeartbeats 2000000
namespace T
variable [TabsC]
open PySem PySem.Spec PyProof.Rows L2 ClX
/-! calls that change an owned thing and hand back a value -/
def eqV (u : V) : PR := ⟨fun _ v => v = u, fun _ h => h⟩
/-- where a thing stands in what a slot owns: some value; the value u -/
def Sta (o0 o1 : OR) (mk : OR → OR) : Prop := ∀ I F v, o0.p I F v → ∃ v1, FocAt o1 mk I F v v1
def Stat (o0 o1 : OR) (mk : OR → OR) (u : V) : Prop := ∀ I F v, o0.p I F v → FocAt o1 mk I F v u
section
variable {X : Cx} {g : Gb} {B : Bs} {J : Hp} {S : SL} {σ : L2.St} {I H : Hp} {Φ : Nat → Hp} {i : Nat} {k : RK} {v : V} {o0 op : OR}
end
/-- an expression that changes the state; its value stays -/
def rdX (g : Gb) (B : Bs) (J : Hp) (S S' : SL) (p : PR) : TE := fun σ H Q => ∃ I, Ok g B J S σ I H ∧ ∀ v I' H', Ok g B J S' σ I' H' → Same I I' → p.p I' v → Q v H'
structure EX {β : Type} (X : Cx) (g : Gb) (B : Bs) (J : Hp) (S : SL) (e : Expr) (m : Option β) (S' : β → SL) (k : β → PR) : Prop where
  run : ∀ b, m = some b → PE X e (rdX g B J S (S' b) (k b))
def rdAX (g : Gb) (B : Bs) (J : Hp) (S S' : SL) (ks : List RK) : TA := fun σ H Q => ∃ I, Ok g B J S σ I H ∧ ∀ vs I' H', Ok g B J S' σ I' H' → Same I I' → Args g ks vs I' H' → Q vs H'
structure EA {γ : Type} (X : Cx) (g : Gb) (B : Bs) (J : Hp) (S : SL) (es : List Expr) (m : Option γ) (S' : γ → SL) (ks : γ → List RK) : Prop where
  run : ∀ c, m = some c → PA X es (rdAX g B J S (S' c) (ks c))
def rdTX (g : Gb) (B : Bs) (J : Hp) (S S' : SL) (b : Bool) : TT := fun σ H Q => ∃ I, Ok g B J S σ I H ∧ ∀ I' H', Ok g B J S' σ I' H' → Same I I' → Q b H'
structure ET {β : Type} (X : Cx) (g : Gb) (B : Bs) (J : Hp) (S : SL) (e : Expr) (m : Option β) (S' : β → SL) (t : β → Bool) : Prop where
  run : ∀ b, m = some b → PT X e (rdTX g B J S (S' b) (t b))
structure EW {β : Type} (X : Cx) (g : Gb) (B : Bs) (J : Hp) (S : SL) (e : Expr) (m : Option β) (S' : β → SL) (t : β → Bool) : Prop where
  run : ∀ b, m = some b → PW X e (rdTX g B J S (S' b) (t b))
section
variable {X : Cx} {g : Gb} {B : Bs} {J : Hp} {S : SL} {e e1 e2 : Expr} {es : List Expr} {pos pos' p p2 apos cpos : Pos} {o α' β β2 γ ι δ : Type} {K : KT o} {rest sts : List Stmt} {m' : Option o}
theorem EX.eq {m m2 : Option β} {S' : β → SL} {k : β → PR} (h : EX X g B J S e m S' k) (q : m = m2) : EX X g B J S e m2 S' k := q ▸ h
variable {args : ι → List RK} {M : ι → Option β} {ka : β → PR} {outs : β → List (Nat × OR)} {or : β → OR} {oT : ι → OR} {pa : γ → ι} {ks : γ → List RK} {S1 : γ → SL} {m : Option γ} {mk : γ → OR → OR} {u : V} {j kk : Nat} {f C : Addr} {fd : FuncData} {ps : List Str} {x name cn : Str} {ds : List Value}
/-! statements -/
variable {mb : Option β} {Sb : β → SL} {k : β → PR} {fb : β → Option o}
/-! tests -/
variable {t : β → Bool}
end
end T
set_option Elab.async false
set_option linter.all false
set_option maxRecDepth 100000
set_option maxHeartbeats 2000000
namespace T
variable [TabsC]
open PySem PySem.Spec PyProof.Rows L2 ClX
/-! exceptions without fields; methods that raise -/
def x0R (g : Gb) (c : Str) : XR := fun cls d _ => ∃ C, g.mg c = some (.ref C) ∧ cls = .ref C ∧ d = none
def rX0 (g : Gb) (c : Str) : PR where
  p := fun I v => ∃ a cls d, v = .ref a ∧ I a = some (ExH cls d a) ∧ x0R g c cls d I
  mono := fun s ⟨a, cls, d, e, h1, h2⟩ => ⟨a, cls, d, e, s _ _ h1, h2⟩
section
variable {g : Gb} {c : Str} {I : Hp} {v : V} {D : Addr} {K : PySem.W.Frag}
end
section
variable {X : Cx} {CX : CXT} {k : Nat} {f C : Addr} {fd : FuncData} {ps : List Str} {sp : Sp} {E : L2.St → XK} {m : Str} {pos apos : Pos} {e o : Expr} {es : List Expr} {ta : TE} {t : TA}
def tMethS (C : Addr) (m : Str) (sp : Sp) (E : L2.St → XK) (ta : TE) (t : TA) : TE := fun σ H Q => ta σ H fun x H1 => ∃ a dx fs, x = .ref a ∧ H1 a = some (.ins C dx fs) ∧ fs.lookup m = none ∧ t σ H1 fun vs H2 => sp (.ref a :: vs) H2 Q (E σ)
end
section
variable {X : Cx} {g : Gb} {B : Bs} {J : Hp} {S : SL} {e e1 e2 : Expr} {es : List Expr} {pos pos' p p2 apos cpos : Pos} {o α' : Type} {K : KT o} {rest sts : List Stmt} {ι β γ δ ε : Type} {args : ι → List RK} {k : β → RK} {xr : ε → XR} {W : WX} {E : XK}
/-- 1 << k and the like -/
@[irreducible] def shlO (i j : Int) : Option Int := if decide (0 ≤ j ∧ j ≤ 1000000 ∧ i.natAbs < 2 ^ 64) = true then some (i * 2 ^ j.toNat) else none
end
end T
set_option Elab.async false
set_option linter.all false
set_option maxRecDepth 100000
set_option maxHeartbeats 2000000
namespace T
variable [TabsC]
open PySem PySem.Spec PyProof.Rows L2 ClX
/-! new lists of what holds no address, made of an owned thing that is looked at -/
class FlatT (α : Type) [Py α] : Prop where
  fl : ∀ {g : Gb} {a : α} {I I' : Hp} {v : V}, (Py.r g a).p I v → (Py.r g a).p I' v
instance : FlatT Int := ⟨fun h => h⟩
instance : FlatT Bool := ⟨fun h => h⟩
instance : FlatT Str := ⟨fun h => h⟩
instance {α : Type} [Py α] [FlatT α] : FlatT (Option α) := ⟨fun {g a I I' v} h => by
  cases a with
  | none => exact h
  | some a => exact FlatT.fl (α := α) h⟩
theorem fr_flat {g : Gb} {α : Type} [Py α] [FlatT α] {bs : List α} {H I' I0 H' : Hp} {v : V} (s : Same I0 I') (h : RK.holds g (.fr (rl g bs)) H v I' H') : RK.holds g (.fr (rl g bs)) H v I0 H' := by
  obtain ⟨l, vs, e, h1, h2, h3, h4⟩ := h
  exact ⟨l, vs, e, h1, s.free h2, h3, h4.1, L2.Paired.mapP h4.2 fun _ _ q => FlatT.fl q⟩
section
variable {X : Cx} {g : Gb} {B : Bs} {J : Hp} {S : SL} {e e1 e2 elt tg iter : Expr} {es ifs : List Expr} {pos pos' p p2 apos cpos : Pos} {o : Type} {K : KT o} {rest sts : List Stmt} {α β γ : Type} [Py α] [Py β] [Py γ]
theorem me_viewL [FlatT β] {a : γ} {o1 : OR} {m : Option (List β)} (i : Nat) (z : Frz o1 (Py.r g a)) (hS : S[i]? = some (some (.ow o1))) (h : ME X g B (S.set i (some (.im (Py.r g a)))) e m (fun bs => .fr (rl g bs))) : ME X g B S e m (fun bs => .fr (rl g bs)) := by
  refine ⟨fun r q => pe_imp (h.run r q) fun σ H Q ⟨I, ⟨Φ, hh⟩, kk⟩ => ⟨_, view_ok z hh hS, fun v I' H' x hv => ?_⟩⟩
  have s0 : Same I (Un I (Φ i)) := un_l fun a ha => (hh.ne ha).2.1
  exact kk v I H' ⟨Same.refl _, x.h, x.h.part hh.sub hh.tb.i, fun _ _ z => z⟩ (fr_flat (s0.trans x.i) hv)
/-- rows[n].pop() as a value; rows own -/
@[irreducible] def popRO {α : Type} (xs : List (List α)) (n : Int) : Option (α × List (List α)) := plO xs n >>= fun r => match r.2.getLast? with
  | some a => some (a, xs.set r.1 r.2.dropLast)
  | none => none
end
end T
set_option Elab.async false
set_option linter.all false
set_option maxRecDepth 100000
set_option maxHeartbeats 2000000
namespace T
variable [TabsC]
open PySem PySem.Spec PyProof.Rows L2 ClX
/-! new trees of what holds no address, made of an owned thing that is looked at -/
def FlatO (o : OR) : Prop := ∀ I I' F v, o.p I F v → o.p I' F v
def FlatOs (os : List OR) : Prop := ∀ o ∈ os, FlatO o
section
variable {X : Cx} {g : Gb} {B : Bs} {S : SL} {e : Expr} {γ ρ : Type} [Py γ]
end
end T
set_option Elab.async false
set_option linter.all false
set_option maxRecDepth 100000
set_option maxHeartbeats 2000000
namespace T
variable [TabsC]
open PySem PySem.Spec PyProof.Rows L2 ClX
/-! a maker whose __init__ may raise -/
section
variable {X : Cx} {CX : CXT} {k : Nat} {f C : Addr} {fd : FuncData} {ps : List Str} {sp : Sp} {dvs : List V} {ds : List Value} {E : L2.St → XK} {x : Str} {p pos : Pos} {e : Expr} {es : List Expr} {t : TA}
def tMakeS (C : Addr) (sp : Sp) (dvs : List V) (E : L2.St → XK) (t : TA) : TE := fun σ H Q => t σ H fun vs H1 => ∀ x dx, H1 x = none → H1 dx = none → dx ≠ x → sp (.ref x :: (vs ++ dvs)) (upd (upd H1 dx (.own x)) x (.ins C dx [])) (fun v H2 => v = .non ∧ Q (.ref x) H2) (E σ)
end
def spIOX {ι β ε : Type} (g : Gb) (args : ι → List RK) (M : ι → Option (Rz β ε)) (outs : β → List (Nat × OR)) (xr : ε → XR) : Sp := fun vs H Q E => ∃ I R Φ a r, Same I H ∧ Same R H ∧ TbH R I H ∧ ArgsF g (args a) vs I R H Φ ∧ M a = some r ∧ match r with
  | .ok b => ∀ v I' H' F Φ', Post g I R (.im (Py.r g ())) (outs b) (fun i => vs[i]?) v I' H' F Φ' → Q v H'
  | .no x => ∀ cls d I' H', Ext I R I' H' → xr x cls d I' → E cls d H'
def KioUX {β ε : Type} (g : Gb) (B : Bs) (u : Nat → V) (outs : β → List (Nat × OR)) (xr : ε → XR) (E : XK) : KT (Rz β ε) := fun r D => match r with
  | .ok b => ∀ I' H' F Φ' σ, Post g B.I B.H (.im (Py.r g ())) (outs b) (fun i => some (u i)) .non I' H' F Φ' → D.nx σ H' ∧ D.rt .non H'
  | .no x => ∀ cls d I' H', Ext B.I B.H I' H' → xr x cls d I' → E cls d H'
section
variable {P : Program} {w : World} {K : PySem.W.Frag} {mg : Str → Option Value} {base : Heap} {ι β ε : Type} {args : ι → List RK} {M : ι → Option (Rz β ε)} {outs : β → List (Nat × OR)} {xr : ε → XR}
end
/-- what follows, where nothing was raised -/
def seqZ {β ε o : Type} (f : β → Option o) (inj : ε → o) : Rz β ε → Option o
  | .ok b => f b
  | .no x => some (inj x)
section
variable {X : Cx} {g : Gb} {B : Bs} {J : Hp} {S : SL} {e : Expr} {es : List Expr} {pos pos' p : Pos} {o α β ε ι : Type} {K : KT o} {rest : List Stmt} {xr : ε → XR} {E : XK} {u : Nat → V} {outs : β → List (Nat × OR)} {W : WX}
end
end T
set_option Elab.async false
set_option linter.all false
set_option maxRecDepth 100000
set_option maxHeartbeats 2000000
namespace T
variable [TabsC]
open PySem PySem.Spec PyProof.Rows L2 ClX
/-! zip of three lists -/
def Itz3 (K : PySem.W.Frag) (a b c : Addr) : It :=
  ⟨fun i H => ∃ (xs ys zs : List V) (x y z : V), SqL K H a xs ∧ SqL K H b ys ∧ SqL K H c zs ∧ xs[i]? = some x ∧ ys[i]? = some y ∧ zs[i]? = some z,
    fun i H v H' => ∃ T x y z, v = .ref T ∧ H T = none ∧ H' = upd H T (.tup [x, y, z]) ∧ (∀ xs, SqL K H a xs → xs[i]? = some x) ∧ (∀ ys, SqL K H b ys → ys[i]? = some y) ∧ ∀ zs, SqL K H c zs → zs[i]? = some z,
    fun i H => ∃ xs ys zs : List V, SqL K H a xs ∧ SqL K H b ys ∧ SqL K H c zs ∧ (i ≤ xs.length ∧ i ≤ ys.length ∧ i ≤ zs.length) ∧ (xs.length ≤ i ∨ ys.length ≤ i ∨ zs.length ≤ i)⟩
def iZip3 (K : PySem.W.Frag) (ta : TA) : L2.TI := fun σ H R => ta σ H fun vs H1 => ∃ a b c xs ys zs, vs = [.ref a, .ref b, .ref c] ∧ SqL K H1 a xs ∧ SqL K H1 b ys ∧ SqL K H1 c zs ∧ R (Itz3 K a b c) H1
section
variable {α β γ : Type} [Py α] [Py β] [Py γ] {g : Gb} {B : Bs}
def zip3L (as : List α) (bs : List β) (cs : List γ) : List (T3 α β γ) := (as.zip (bs.zip cs)).map fun p => T3.mk p.1 p.2.1 p.2.2
/-- three lists of one length -/
@[irreducible] def zip3O (as : List α) (bs : List β) (cs : List γ) : Option (List (T3 α β γ)) := if decide (as.length = bs.length ∧ as.length = cs.length) = true then some (zip3L as bs cs) else none
variable {X : Cx} {S : SL} {e e2 e3 : Expr} {p pos : Pos} {m : Option (List α)}
end
end T
set_option Elab.async false
set_option linter.all false
set_option maxRecDepth 100000
set_option maxHeartbeats 2000000
namespace T
variable [TabsC]
open PySem PySem.Spec PyProof.Rows L2 ClX
theorem flat_ostr {g : Gb} : ∀ r : Option Str, Flat (KI g r) := fun r => ⟨_, rfl, fun _ _ _ h => by cases r <;> exact h⟩
/-! records: dicts whose keys are texts, known beforehand, in the order in which they came -/
def rkv (ns : List Str) (vs : List V) : List (L2.Key × V) := (ns.map Sum.inr).zip vs
theorem rkv_len {ns : List Str} {vs : List V} (h : ns.length = vs.length) : (rkv ns vs).length = ns.length := by
  unfold rkv
  rw [List.length_zip, List.length_map, h, Nat.min_self]
theorem rkv_val {f : Str} : ∀ {ns : List Str} {vs : List V} {j : Nat}, fidx ns f = some j → ns.length = vs.length → valV (rkv ns vs) (Sum.inr f : L2.Key) = vs[j]?
  | [], _, j, h, _ => by cases h
  | n :: ns, [], j, _, hl => by cases hl
  | n :: ns, v :: vs, j, h, hl => by
    unfold fidx at h
    cases hb : f == n with
    | true =>
      rw [hb, if_pos rfl] at h
      cases h
      have e := eq_of_beq hb
      subst e
      exact valV_pos rfl
    | false =>
      rw [hb, if_neg Bool.false_ne_true] at h
      obtain ⟨j', e1, e2⟩ := Option.map_eq_some_iff.mp h
      subst e2
      have hne : ¬ ((Sum.inr n : L2.Key) = Sum.inr f) := fun z => by
        cases z
        rw [beq_self_eq_true] at hb; cases hb
      exact (valV_neg hne).trans (rkv_val e1 (by simpa using hl))
theorem rkv_any {f : Str} : ∀ {ns : List Str} {vs : List V}, ns.length = vs.length → ((rkv ns vs).any fun kv => decide (kv.1 = (Sum.inr f : L2.Key))) = (fidx ns f).isSome
  | [], [], _ => rfl
  | [], _ :: _, hl => by cases hl
  | n :: ns, [], hl => by cases hl
  | n :: ns, v :: vs, hl => by
    have ih := rkv_any (f := f) (ns := ns) (vs := vs) (by simpa using hl)
    show (decide ((Sum.inr n : L2.Key) = Sum.inr f) || (rkv ns vs).any fun kv => decide (kv.1 = (Sum.inr f : L2.Key))) = _
    unfold fidx
    rw [ih]
    cases hb : f == n with
    | true =>
      have e := eq_of_beq hb
      subst e
      rw [decide_eq_true rfl, if_pos rfl]; rfl
    | false =>
      rw [decide_eq_false (fun z => by cases z; rw [beq_self_eq_true] at hb; cases hb), if_neg Bool.false_ne_true, Option.isSome_map]
      rfl
theorem putK_new {f : Str} {w : V} {ns : List Str} {vs : List V} (h : fidx ns f = none) (hl : ns.length = vs.length) : putK (rkv ns vs) (Sum.inr f : L2.Key) w = rkv (ns ++ [f]) (vs ++ [w]) := by
  unfold putK
  rw [rkv_any hl, h, if_neg (by simp)]
  unfold rkv
  rw [List.map_append, List.zip_append (by rw [List.length_map, hl])]
  rfl
/-- a display's pairs stand as they are told -/
theorem merge_rkv : ∀ (ms : List Str) (ws : List V) {ns : List Str} {vs : List V}, ms.length = ws.length → ns.length = vs.length → (ns ++ ms).Nodup → mergeK (rkv ns vs) (rkv ms ws) = rkv (ns ++ ms) (vs ++ ws)
  | [], [], ns, vs, _, _, _ => by rw [List.append_nil, List.append_nil]; rfl
  | [], _ :: _, _, _, h, _, _ => by cases h
  | _ :: _, [], _, _, h, _, _ => by cases h
  | m :: ms, w :: ws, ns, vs, h, hl, nd => by
    have hm : fidx ns m = none := by
      have hmn : m ∉ ns := fun z => by
        have := (List.nodup_append.mp nd).2.2 m z m List.mem_cons_self
        exact this rfl
      clear nd h hl
      induction ns with
      | nil => rfl
      | cons n ns ih =>
        unfold fidx
        rw [if_neg, ih fun z => hmn (List.mem_cons_of_mem _ z)]
        · rfl
        · intro z
          exact hmn (by rw [eq_of_beq z]; exact List.mem_cons_self)
    show mergeK (putK (rkv ns vs) (Sum.inr m : L2.Key) w) (rkv ms ws) = _
    rw [putK_new hm hl, merge_rkv ms ws (by simpa using h) (by simp [hl]) (by rw [List.append_assoc]; exact nd), List.append_assoc, List.append_assoc]
    rfl
def wR (ns : List Str) : List V → HO → Prop := fun vs ob => ob = .dK (rkv ns vs) ∧ ns.length = vs.length
structure HR (ns : List Str) (β : Type) where
  s : β
def rHR {β : Type} [PyS β] (g : Gb) (ns : List Str) (x : β) : PR where
  p := fun I v => ∃ l vs, v = .ref l ∧ I l = some (.dK (rkv ns vs)) ∧ ns.length = vs.length ∧ Paired (fun (r : PR) v => r.p I v) (PyS.rs g x) vs
  mono := fun s ⟨l, vs, e, h, z, q⟩ => ⟨l, vs, e, s _ _ h, z, L2.Paired.mapP q fun r _ q => r.mono s q⟩
instance {ns : List Str} {β : Type} [PyS β] : Py (HR ns β) := ⟨fun g x => rHR g ns x.s⟩
instance {ns : List Str} {β : Type} [PyS β] : Nz (HR ns β) := ⟨fun h z => by obtain ⟨_, _, rfl, _⟩ := h; cases z⟩
theorem frz_HR {g : Gb} {ns : List Str} {β : Type} [PyS β] {os : List OR} {x : HR ns β} (z : Paired Frz os (PyS.rs g x.s)) : Frz (oC (wR ns) os) (Py.r g x) := fun I F v hd ⟨l, ob, vs, e, h, ⟨h2, h3⟩, kd⟩ => by
  subst e h2
  exact ⟨l, vs, rfl, un_r h, h3, kids_frz (g := g) hd z kd⟩
/-- a dict that the base has not, written -/
theorem SW.putD {H H' : Hp} {l : Addr} {ob : HO} {ws : List (L2.Key × V)} (s : SW H H') (h : H l = none) (h' : H' l = some (.dK ws)) : SW H (upd H' l ob) := by
  refine ⟨fun a o e => ?_, fun a e => ?_, fun t => (s.t t).keep (fun p hp o e => ?_) fun a f e => ?_⟩
  · rw [upd_ne (ne_of_none e h)]
    exact s.k a o e
  · by_cases ha : a = l
    · rw [ha]; exact h
    · rw [upd_ne ha] at e; exact s.f a e
  · rw [upd_ne (fun z => t.ne hp (by rw [z]; exact h))]; exact e
  · rw [upd_ne (fun z => by rw [z, h'] at e; cases e)]; exact e
/-! the parts of a display told -/
structure MRO {γ : Type} (X : Cx) (g : Gb) (B : Bs) (S : SL) (pos : Pos) (keys : List (Option Expr)) (es : List Expr) (ns : List Str) (m : Option γ) (ks : γ → List OR) : Prop where
  run : ∀ c, m = some c → ∃ trs, PPs X pos keys es trs ∧ (∀ σ H Q, (∃ I, Hold g B S σ I H ∧ ∀ vs I' H', Ext I H I' H' → Owns (ks c) vs H I' H' → ns.length = vs.length → Q ((rkv ns vs).map fun kv => (kV kv.1, kv.2)) H') → tPairs trs σ H Q) ∧ (ks c).length = es.length
section
variable {X : Cx} {g : Gb} {B : Bs} {J : Hp} {S : SL} {e e1 e2 e3 tg : Expr} {es : List Expr} {pos pos' p apos kpos : Pos} {α' γ o ι : Type} {K : KT o} {rest : List Stmt} {keys : List (Option Expr)} {ns : List Str} {i : Nat}
theorem mro_nil : MRO X g B S pos [] [] [] (some HU.mk) (fun _ => []) := ⟨fun as q => by
  cases q
  exact ⟨_, pps_nil, fun σ H Q ⟨I, hh, kk⟩ => kk [] I H (Ext.refl hh.sub) ⟨rfl, fun _ _ => none, fun j o v h => by simp at h, fun _ _ _ z => (by cases z), fun _ _ z => absurd rfl z, fun _ _ _ z => absurd rfl z⟩ rfl, rfl⟩⟩
theorem mro_cons {n : Str} {z : Nat} {m1 : Option α'} {m2 : Option γ} {k1 : α' → RK} {ks : γ → List OR} (h : ME X g B S e m1 k1) (t : MRO X g B S pos keys es ns m2 ks) (s1 : ∀ a, (k1 a).slotty = true := by intro _; rfl) :
    MRO X g B S pos (some (.Constant (.str n) z kpos) :: keys) (e :: es) (n :: ns) (m1 >>= fun a => m2 >>= fun b => some (HC.mk a b)) (fun x => (k1 x.h).orOf :: ks x.t) := by
  refine ⟨fun as q => ?_⟩
  obtain ⟨a, q1, q⟩ := bind_some q
  obtain ⟨b, q2, q3⟩ := bind_some q
  cases q3
  obtain ⟨trs, hp, ht, hl⟩ := t.run b q2
  refine ⟨_, pps_cons pe_str (h.run a q1) hp, fun σ H Q ⟨I, hh, kk⟩ => ?_, by rw [List.length_cons, List.length_cons, hl]⟩
  refine ⟨I, hh, fun v I1 H1 x1 hv => ht σ H1 _ ⟨I1, hh.ext x1, fun vs I2 H2 x2 ho hn => ?_⟩⟩
  obtain ⟨F1, f1, f2, f3⟩ := RK.fragO (s1 a) hv
  obtain ⟨ol, Ψ, p1, p2, p3, p4⟩ := ho
  refine kk (v :: vs) I2 H2 (x1.trans x2) ⟨by rw [List.length_cons, List.length_cons, ol], shF F1 Ψ, fun j o u e1 e2 => ?_, fun j => ?_, fun j c hc => ?_, fun i j c hi hj => ?_⟩ (by rw [List.length_cons, List.length_cons, hn])
  · cases j with
    | zero =>
      cases e1
      cases e2
      exact OR.mono _ x2.i f3
    | succ j => exact p1 j o u (by simpa using e1) (by simpa using e2)
  · cases j with
    | zero => exact x2.h.part f2 (frag_noT hh.tb.has f1)
    | succ j => exact p2 j
  · cases j with
    | zero => exact ⟨(f1 c hc).1, x2.n c (same_ne f2 hc) (f1 c hc).2⟩
    | succ j => exact ⟨x1.h.free (p3 j c hc).1, (p3 j c hc).2⟩
  · have dis : ∀ j, Ψ j c ≠ none → F1 c = none := fun j hc => f2.free (p3 j c hc).1
    cases i with
    | zero =>
      cases j with
      | zero => rfl
      | succ j => exact absurd (dis j hj) hi
    | succ i =>
      cases j with
      | zero => exact absurd (dis i hi) hj
      | succ j => rw [p4 i j c hi hj]
/-- {"a": x, ..} -/
theorem me_disR {m : Option γ} {ks : γ → List OR} (h : MRO X g B S pos keys es ns m ks) (hall : keys.all (·.isSome) = true := by rfl) (hl : keys.length = es.length := by rfl) (h0 : keys ≠ [] := by simp) (h15 : keys.length ≤ 15 := by decide) (hn : ns.length = keys.length := by rfl) (nd : ns.Nodup := by decide +kernel) :
    ME X g B S (.Dict keys es pos) (m >>= fun c => some (HR.mk (ns := ns) c)) (fun x => .ow (oC (wR ns) (ks x.s))) := by
  refine ⟨fun as q => ?_⟩
  obtain ⟨c, q1, q2⟩ := bind_some q
  cases q2
  obtain ⟨trs, hp, ht, hk⟩ := h.run c q1
  refine pe_imp (pe_disp hp hall hl h0 h15) fun σ H Q ⟨I, hh, kk⟩ => fun d hd => ?_
  have hI : I d = none := hh.sub.free hd
  have x0 : Ext I H I (upd H d (.dK [])) := ⟨Same.refl _, SW.of (same_new hd), hh.sub.trans (same_new hd), fun _ _ h => h⟩
  refine ht σ _ _ ⟨I, hh.ext x0, fun vs I' H' x ho hv => ?_⟩
  have hd' : H' d = some (.dK []) := x.h.get _ _ upd_same
  have hI' : I' d = none := x.n d (by rw [upd_same]; simp) hI
  have hz : (rkv ns vs).length ≤ 15 := by rw [rkv_len hv, hn]; exact h15
  refine ⟨hd', rkv ns vs, rfl, hz, ?_⟩
  have hm : mergeK ([] : List (L2.Key × V)) (rkv ns vs) = rkv ns vs := merge_rkv ns vs (ns := []) (vs := []) hv rfl nd
  rw [hm]
  obtain ⟨ol, Ψ, p1, p2, p3, p4⟩ := ho
  have hΨ : ∀ j, Ψ j d = none := fun j => by
    cases q : Ψ j d with
    | none => rfl
    | some o => exact absurd (p3 j d (ne_of_some q)).1 (by rw [upd_same]; simp)
  have sH : SW H H' := (SW.of (same_new hd)).trans x.h
  refine kk (.ref d) I' _ ⟨x.i, sH.putD hd hd', fun a o e => ?_, fun a n1 n2 => ?_⟩ ⟨rootF Ψ H' d (.dK (rkv ns vs)), fun a ha => ?_, fun a o e => ?_, d, _, vs, rfl, rootF_root, ⟨rfl, hv⟩, ol, Ψ, p1, fun j a o e => ?_, fun j => hΨ j, p4⟩
  · rw [upd_ne (fun z => by rw [z, hI'] at e; cases e)]
    exact x.s _ _ e
  · by_cases ha : a = d
    · rw [ha]; exact hI'
    · exact x.n a (by rw [upd_ne ha]; exact n1) n2
  · rcases rootF_ne ha with z | ⟨z, j, zj⟩
    · subst z; exact ⟨hd, hI'⟩
    · have := p3 j a zj
      rw [upd_ne z] at this
      exact this
  · rcases rootF_ne (ne_of_some e) with z | ⟨z, j, zj⟩
    · subst z
      rw [rootF_root] at e
      rw [upd_same]; exact e
    · rw [rootF_in z zj] at e
      rw [upd_ne z]; exact e
  · have had : a ≠ d := fun z => by subst z; rw [hΨ j] at e; cases e
    rw [rootF_in had (ne_of_some e)]
    exact p2 j a o e
/-- x["key"], a place -/
theorem mp_key {m : Option ι} {mk : ι → OR → OR} {os : ι → List OR} {oj : ι → OR} {f : Str} (hu : X.A.units + 64 < cLine) (j : Nat) {z : Nat} (h : MP X g B S i e m (fun x => oC (wR ns) (os x)) mk) (hj : fidx ns f = some j := by decide +kernel) (ho : ∀ x, (os x)[j]? = some (oj x) := by intro _; rfl) (hs : NoSl (.Constant (.str f) z pos') := by exact fun _ _ => rfl) :
    MP X g B S i (.Subscript e (.Constant (.str f) z pos') pos) m oj (fun x o' => mk x (oC (wR ns) ((os x).set j o'))) := by
  refine ⟨fun x q => pe_imp (pe_dget (show X.A.units + 1 < cLine by omega) (h.run x q) pe_str hs) fun σ H Q ⟨I, Φ, hh, kk⟩ => ⟨I, Φ, hh, fun v1 I' H' x1 ⟨v, e1, fc⟩ => ?_⟩⟩
  obtain ⟨l, ob, vs, uj, rfl, hl, ⟨c2, c3⟩, c4, hu', fc'⟩ := foc_kid (ho x) fc
  subst c2
  have hg := DGet.k (k := (Sum.inr f : L2.Key)) (x1.h.get _ _ (hh.fr i l _ hl).1)
  rw [rkv_val hj c3, hu'] at hg
  exact ⟨l, uj, rfl, hg, kk uj I' H' x1 ⟨v, e1, fc'⟩⟩
/-- x["key"] of a record that stays -/
theorem me_kix {α β : Type} [Py α] [PyS β] {m : Option (HR ns β)} {f : Str} (hu : X.A.units + 64 < cLine) (j : Nat) {z : Nat} {pr : β → α} (h1 : ME X g B S e1 m (KI g)) (hj : fidx ns f = some j := by decide +kernel) (ht : ∀ t : β, (PyS.rs g t)[j]? = some (Py.r g (pr t)) := by intro _; rfl) (hs : NoSl (.Constant (.str f) z pos') := by exact fun _ _ => rfl) :
    ME X g B S (.Subscript e1 (.Constant (.str f) z pos') pos) (m >>= fun t => some (pr t.s)) (KI g) := by
  refine ⟨fun a q => ?_⟩
  obtain ⟨t, q1, q⟩ := bind_some q
  cases q
  refine pe_imp (pe_dget (show X.A.units + 1 < cLine by omega) (h1.run t q1) pe_str hs) fun σ H Q ⟨I, hh, kk⟩ => ⟨I, hh, fun v I' H' x hv => ?_⟩
  obtain ⟨l, vs, rfl, h3, h4, h5⟩ := hv
  obtain ⟨u, e1, e2⟩ := paired_get h5 (ht t.s)
  have hg := DGet.k (k := (Sum.inr f : L2.Key)) (x.s _ _ h3)
  rw [rkv_val hj h4, e1] at hg
  exact ⟨l, u, rfl, hg, kk u I' H' x e2⟩
/-- place["key"] = value: a new key -/
theorem mb_keyN {a' : Type} {f : Str} {z : Nat} {os : ι → List OR} {mk : ι → OR → OR} {m : Option ι} {m2 : Option a'} {k : a' → RK} {fn : ι → a' → Option o} (hu : X.A.units + 64 < cLine) (hv : ME X g B S e2 m2 k) (h : MP X g B S i e m (fun x => oC (wR ns) (os x)) mk)
    (hb : ∀ x a, MB X g B J (S.set i (some (.ow (mk x (oC (wR (ns ++ [f])) (os x ++ [(k a).orOf])))))) rest (fn x a) K) (hj : fidx ns f = none := by decide +kernel) (hk : ∀ a, (k a).slotty = true := by intro _; rfl) (hn : ns.length < 1000 := by decide)
    (hs : swapsWith e2 (some (.Subscript e (.Constant (.str f) z kpos) apos)) pos.line X.env = pure false := by rfl) : MB X g B J S (.Assign [.Subscript e (.Constant (.str f) z kpos) apos] e2 pos :: rest) (m2 >>= fun a => m >>= fun x => fn x a) K := by
  refine ⟨fun r q => ?_⟩
  obtain ⟨a, q2, q⟩ := bind_some q
  obtain ⟨x, q1, q3⟩ := bind_some q
  refine pss_imp (pss_cons (ps_dput (show X.A.units + 1 < cLine by omega) (h.run x q1) pe_str (hv.run a q2) hs) ((hb x a).run r q3)) fun D σ H ⟨I, ok, kk⟩ => ?_
  obtain ⟨x0, oj, Φ, hh⟩ := ok
  refine ⟨I, ⟨Φ, hh⟩, fun w I1 H1 x1 hw => ⟨I1, Φ, hh.ext x1, fun v1 I2 H2 x2 ⟨v, e1, fc⟩ => ?_⟩⟩
  obtain ⟨F', f1, f2, f3⟩ := RK.fragO (hk a) (RK.ext hw x2 hh.tb.has)
  obtain ⟨l, ob, vs, rfl, hl, ⟨c2, c3⟩, c4, put⟩ := foc_root fc
  subst c2
  have x12 := x1.trans x2
  have hl2 := x12.h.get _ _ (hh.fr i l _ hl).1
  have none_of : ∀ a, F' a ≠ none → ∀ j, Φ j a = none := fun a ha j => by
    cases q : Φ j a with
    | none => rfl
    | some u => exact absurd (f1 a ha).1 (ne_of_some (hh.fr j a u q).1)
  have hz : (rkv ns vs).length < sizeLine := by rw [rkv_len c3]; exact Nat.lt_of_lt_of_le hn (by decide)
  refine ⟨l, _, rfl, DPut.k (k := (Sum.inr f : L2.Key)) hl2 hz, I2, ?_, kk⟩
  rw [putK_new hj c3]
  refine HoldF.store (x0.trans x12) (oj.trans x12.i) (hh.ext x12) e1 hl (F' := F') f2 (fun a ha => ⟨(f1 a ha).2, hh.base.free (f1 a ha).1, none_of a ha⟩) ?_
  refine put (wR (ns ++ [f])) (os x ++ [(k a).orOf]) (vs ++ [w]) _ (os x).length I2 F' (Same.refl _) (fun a ha => none_of a ha i) ⟨rfl, by simp [c3]⟩ (by simp [c4]) fun i' o' u e1 e2 => ?_
  by_cases hi : i' < (os x).length
  · rw [List.getElem?_append_left hi] at e1
    rw [List.getElem?_append_left (by omega)] at e2
    rw [if_neg (by omega)]
    exact ⟨e1, e2⟩
  · have hlt := (List.getElem?_eq_some_iff.mp e1).1
    rw [List.length_append, List.length_singleton] at hlt
    have hi2 : i' = (os x).length := by omega
    subst hi2
    rw [List.getElem?_append_right (Nat.le_refl _), Nat.sub_self] at e1
    rw [c4, List.getElem?_append_right (Nat.le_refl _), Nat.sub_self] at e2
    cases e1
    cases e2
    rw [if_pos rfl]; exact f3
end
section
variable {X : Cx} {g : Gb} {B : Bs} {S : SL} {es : List Expr} {pos : Pos} {keys : List (Option Expr)} {ns : List Str} {α β γ δ : Type}
theorem MRO.p1 {ks : δ → List OR} {a : α} {f : α → Option δ} {r : Option δ} (h : MRO X g B S pos keys es ns (some a >>= f) ks) (q : f a = r := by exact rfl) : MRO X g B S pos keys es ns r ks := q ▸ h
theorem MRO.p2 {ks : δ → List OR} {m : Option α} {b : β} {f : α → β → Option δ} {r : Option δ} (h : MRO X g B S pos keys es ns (m >>= fun a => some b >>= f a) ks) (q : (m >>= fun a => f a b) = r := by exact rfl) : MRO X g B S pos keys es ns r ks := q ▸ h
end
section
/-- an if with pure sides that is not the last of a loop's body -/
theorem mb_ifS {X : Cx} {g : Gb} {B : Bs} {S : SL} {e : Expr} {c : Bool} {β' o' : Type} {a1 a2 : β'} {b1 b2 rest : List Stmt} {pos : Pos} {S' : β' → SL} {f : β' → o'} {J} {K : KT o'} (hc : MT X g B S e (some c)) (h1 : MB X g B J S b1 (some a1) (Kn g B J S')) (h2 : MB X g B J S b2 (some a2) (Kn g B J S')) (hb : ∀ b, MB X g B J (S' b) rest (some (f b)) K) :
    MB X g B J S (.If e b1 b2 pos :: rest) (some (f (if c = true then a1 else a2))) K :=
  mb_ifP (f := fun b => some (f b)) hc h1 h2 hb
end
end T
set_option Elab.async false
set_option linter.all false
set_option maxRecDepth 100000
/-! plain lemmas about what the mirrors are made of -/
namespace T
variable [TabsC]
open PySem L2
theorem mulO_l {i j : Int} (h : -(2 ^ 64) < i) (h2 : i < 2 ^ 64) : mulO i j = some (i * j) := by
  rw [mulO_eq, if_pos]
  unfold mulOk
  rw [decide_eq_true (⟨h, h2⟩ : -(2 ^ 64) < i ∧ i < 2 ^ 64)]; rfl
theorem mulO_r {i j : Int} (h : -(2 ^ 64) < j) (h2 : j < 2 ^ 64) : mulO i j = some (i * j) := by
  rw [mulO_eq, if_pos]
  unfold mulOk
  rw [decide_eq_true (⟨h, h2⟩ : -(2 ^ 64) < j ∧ j < 2 ^ 64), Bool.or_true]; rfl
theorem modO_ok {i j : Int} (h : 0 < j) : modO i j = some (i % j) := by
  rw [modO_eq, if_pos]
  unfold modOk
  rw [decide_eq_true h]
theorem divO_ok {i j : Int} (h : 0 < j) (h2 : j < 2 ^ 1000) : divO i j = some (i / j) := by
  rw [divO_eq, if_pos]
  unfold divOk
  refine decide_eq_true ⟨h, ?_⟩
  have h3 : j.natAbs < 2 ^ 1000 := by omega
  have h4 : j.natAbs.log2 < 1000 := (Nat.log2_lt (by omega)).mpr h3
  omega
theorem sizeLine_eq : sizeLine = 16777216 := by decide
theorem appO_ok {α : Type} {xs : List α} {x : α} (h : xs.length < 16777216) : appO xs x = some (xs ++ [x]) := by
  unfold appO
  rw [if_pos (decide_eq_true (by rw [sizeLine_eq]; exact h))]
theorem catO_ok {α : Type} {xs ys : List α} (h : xs.length + ys.length ≤ 16777216) : catO xs ys = some (xs ++ ys) := by
  unfold catO
  rw [if_pos]
  unfold catOk
  exact decide_eq_true (by rw [sizeLine_eq]; exact h)
theorem flat_rep {α : Type} (x : α) : ∀ n : Nat, (List.replicate n [x]).flatten = List.replicate n x
  | 0 => rfl
  | n + 1 => by rw [List.replicate_succ, List.replicate_succ, List.flatten_cons, flat_rep x n]; rfl
theorem repO_one {α : Type} {x : α} {k : Int} (h : k ≤ 16777216) (h2 : 0 ≤ k) : repO [x] k = some (List.replicate k.toNat x) := by
  unfold repO
  rw [if_pos, flat_rep]
  unfold repOk
  rw [Bool.and_eq_true, decide_eq_true_eq, decide_eq_true_eq, sizeLine_eq, List.length_singleton]
  refine ⟨⟨by omega, by omega⟩, by omega⟩
theorem atO_ok {α : Type} {xs : List α} {i : Int} {v : α} (h0 : 0 ≤ i) (h : xs[i.toNat]? = some v) : atO xs i = some v := by
  rw [atO_eq]
  have e : ((i.toNat : Nat) : Int) = i := by omega
  rw [← e]
  exact atI_nat h
theorem atO_nat {α : Type} {xs : List α} {i : Nat} {v : α} (h : xs[i]? = some v) : atO xs (i : Int) = some v := by
  rw [atO_eq]
  exact atI_nat h
theorem atO_get {α : Type} {xs : List α} {i : Int} (h0 : 0 ≤ i) (h : i < xs.length) : atO xs i = some (xs[i.toNat]'(by omega)) := atO_ok h0 (List.getElem?_eq_getElem _)
theorem setO_ok {α : Type} {xs : List α} {i : Int} {x : α} (h0 : 0 ≤ i) (h : i < xs.length) : setO xs i x = some (xs.set i.toNat x) := by
  unfold setO ixN
  rw [if_pos h0, if_pos h]; rfl
theorem rng1O_ok {n : Int} (h : n ≤ 16777216) (h0 : -1000 ≤ n) : rng1O n = some (rng 0 n.toNat) := by
  unfold rng1O
  rw [if_pos]
  unfold rngOk
  rw [Bool.and_eq_true, decide_eq_true_eq, decide_eq_true_eq, sizeLine_eq]
  refine ⟨⟨by decide, by decide, by omega, by omega⟩, by omega⟩
theorem rng2O_ok {a b : Int} (ha : -1000 ≤ a) (hb : b ≤ 16000000) (ha2 : a ≤ 16000000) (hb2 : -1000 ≤ b) : rng2O a b = some (rng a (b - a).toNat) := by
  unfold rng2O
  rw [if_pos]
  unfold rngOk
  rw [Bool.and_eq_true, decide_eq_true_eq, decide_eq_true_eq, sizeLine_eq]
  refine ⟨⟨by omega, by omega, by omega, by omega⟩, by omega⟩
/-! slices -/
theorem sIx_ge {n d : Nat} {v : Int} (h : 0 ≤ v) : HT.sIx n d (some v) = min v.toNat n := by
  show (if v < 0 then (v + (n : Int)).toNat else min v.toNat n) = _
  rw [if_neg (by omega)]
theorem cutO_to {α : Type} (xs : List α) {k : Int} (h : 0 ≤ k) : cutO xs none (some k) = xs.take k.toNat := by
  unfold cutO
  rw [sIx_ge h, HT.sIx_none, List.drop_zero, Nat.sub_zero]
  by_cases hk : k.toNat ≤ xs.length
  · rw [Nat.min_eq_left hk]
  · rw [Nat.min_eq_right (by omega), List.take_of_length_le (Nat.le_refl _), List.take_of_length_le (by omega)]
theorem cutO_len {α : Type} (xs : List α) (a b : Option Int) : (cutO xs a b).length ≤ xs.length := by
  unfold cutO
  rw [List.length_take, List.length_drop]
  omega
/-! loops -/
theorem loopN_ind {α γ : Type} {f : γ → α → Option γ} {as : List α} {s0 : γ} (Pv : List α → γ → Prop) (h0 : Pv [] s0) (hs : ∀ pre a post s, as = pre ++ a :: post → Pv pre s → ∃ s', f s a = some s' ∧ Pv (pre ++ [a]) s') : ∃ s', loopN f as s0 = some s' ∧ Pv as s' := by
  have key : ∀ (post pre : List α) (s : γ), as = pre ++ post → Pv pre s → ∃ s', loopN f post s = some s' ∧ Pv as s' := by
    intro post
    induction post with
    | nil =>
      intro pre s e p
      rw [List.append_nil] at e
      exact ⟨s, rfl, e ▸ p⟩
    | cons a post ih =>
      intro pre s e p
      obtain ⟨s1, e1, p1⟩ := hs pre a post s e p
      obtain ⟨s2, e2, p2⟩ := ih (pre ++ [a]) s1 (by rw [List.append_assoc]; exact e) p1
      refine ⟨s2, ?_, p2⟩
      show (f s a >>= fun s' => loopN f post s') = some s2
      rw [e1]; exact e2
  exact key as [] s0 rfl h0
theorem loopN_step {α γ δ : Type} {f : γ → α → Option γ} {as : List α} {s0 : γ} {g : γ → Option δ} {Q : δ → Prop} (Pv : List α → γ → Prop) (h0 : Pv [] s0) (hs : ∀ pre a post s, as = pre ++ a :: post → Pv pre s → ∃ s', f s a = some s' ∧ Pv (pre ++ [a]) s') (hg : ∀ s, Pv as s → ∃ r, g s = some r ∧ Q r) : ∃ r, (loopN f as s0 >>= g) = some r ∧ Q r := by
  obtain ⟨s', e, p⟩ := loopN_ind Pv h0 hs
  obtain ⟨r, e2, q⟩ := hg s' p
  exact ⟨r, by rw [e]; exact e2, q⟩
theorem loopN_eq {α γ δ : Type} {f : γ → α → Option γ} {as : List α} {s0 : γ} {g : γ → Option δ} {r : δ} (Pv : List α → γ → Prop) (h0 : Pv [] s0) (hs : ∀ pre a post s, as = pre ++ a :: post → Pv pre s → ∃ s', f s a = some s' ∧ Pv (pre ++ [a]) s') (hg : ∀ s, Pv as s → g s = some r) : (loopN f as s0 >>= g) = some r := by
  obtain ⟨s', e, p⟩ := loopN_ind Pv h0 hs
  rw [e]; exact hg s' p
theorem loopC_ind {α γ ρ : Type} {f : γ → α → Option (Ctl γ γ ρ)} {as : List α} {s0 : γ} (Pv : List α → γ → Prop) (h0 : Pv [] s0) (hs : ∀ pre a post s, as = pre ++ a :: post → Pv pre s → ∃ s', (f s a = some (.nx s') ∨ f s a = some (.ct s')) ∧ Pv (pre ++ [a]) s') : ∃ s', loopC f as s0 = some (.nx s') ∧ Pv as s' := by
  have key : ∀ (post pre : List α) (s : γ), as = pre ++ post → Pv pre s → ∃ s', loopC f post s = some (.nx s') ∧ Pv as s' := by
    intro post
    induction post with
    | nil =>
      intro pre s e p
      rw [List.append_nil] at e
      exact ⟨s, rfl, e ▸ p⟩
    | cons a post ih =>
      intro pre s e p
      obtain ⟨s1, e1, p1⟩ := hs pre a post s e p
      obtain ⟨s2, e2, p2⟩ := ih (pre ++ [a]) s1 (by rw [List.append_assoc]; exact e) p1
      refine ⟨s2, ?_, p2⟩
      unfold loopC
      rcases e1 with e1 | e1
      · rw [e1]; exact e2
      · rw [e1]; exact e2
  exact key as [] s0 rfl h0
/-- a loop whose turns all go on and carry nothing -/
theorem loopC_unit {α ρ : Type} {f : Unit → α → Option (Ctl Unit Unit ρ)} {as : List α} (hs : ∀ a ∈ as, f () a = some (.nx ()) ∨ f () a = some (.ct ())) : loopC f as () = some (.nx ()) := by
  obtain ⟨s, e, _⟩ := loopC_ind (f := f) (as := as) (s0 := ()) (fun _ _ => True) trivial fun pre a post s e _ => ⟨(), hs a (by rw [e]; simp), trivial⟩
  exact e
theorem lcM_ok {α β : Type} {f : α → Option β} {g : α → β} : ∀ {as : List α}, (∀ a ∈ as, f a = some (g a)) → lcM f as = some (as.map g)
  | [], _ => rfl
  | a :: as, h => by
    show (f a >>= fun b => lcM f as >>= fun bs => some (b :: bs)) = _
    rw [h a List.mem_cons_self, lcM_ok (as := as) fun b hb => h b (List.mem_cons_of_mem _ hb)]
    rfl
theorem lcM_ex {α β : Type} {f : α → Option β} {R : α → β → Prop} : ∀ {as : List α}, (∀ a ∈ as, ∃ b, f a = some b ∧ R a b) → ∃ bs, lcM f as = some bs ∧ bs.length = as.length ∧ ∀ b ∈ bs, ∃ a ∈ as, R a b
  | [], _ => ⟨[], rfl, rfl, fun _ h => by cases h⟩
  | a :: as, h => by
    obtain ⟨b, e, r⟩ := h a List.mem_cons_self
    obtain ⟨bs, e2, l, r2⟩ := lcM_ex (as := as) fun c hc => h c (List.mem_cons_of_mem _ hc)
    refine ⟨b :: bs, ?_, by rw [List.length_cons, List.length_cons, l], fun c hc => ?_⟩
    · show (f a >>= fun b => lcM f as >>= fun bs => some (b :: bs)) = _
      rw [e, e2]; rfl
    · rcases List.mem_cons.mp hc with z | z
      · exact ⟨a, List.mem_cons_self, z ▸ r⟩
      · obtain ⟨d, h1, h2⟩ := r2 c z
        exact ⟨d, List.mem_cons_of_mem _ h1, h2⟩
theorem lcF_ok {α β : Type} {t : α → Option Bool} {f : α → Option β} {u : α → Bool} {g : α → β} : ∀ {as : List α}, (∀ a ∈ as, t a = some (u a)) → (∀ a ∈ as, u a = true → f a = some (g a)) → lcF t f as = some ((as.filter u).map g)
  | [], _, _ => rfl
  | a :: as, h, h2 => by
    show (t a >>= fun b => if b = true then (f a >>= fun y => lcF t f as >>= fun ys => some (y :: ys)) else lcF t f as) = _
    rw [h a List.mem_cons_self, List.filter_cons, lcF_ok (as := as) (fun b hb => h b (List.mem_cons_of_mem _ hb)) fun b hb => h2 b (List.mem_cons_of_mem _ hb)]
    show (if u a = true then _ else _) = _
    cases q : u a with
    | true => rw [if_pos rfl, if_pos rfl, h2 a List.mem_cons_self q]; rfl
    | false => rw [if_neg Bool.false_ne_true, if_neg Bool.false_ne_true]
theorem rng_mem {lo : Int} {n : Nat} {x : Int} (h : x ∈ rng lo n) : lo ≤ x ∧ x < lo + n := by
  unfold rng at h
  obtain ⟨i, h1, rfl⟩ := List.mem_map.mp h
  rw [List.mem_range] at h1
  omega
theorem rng_at {lo : Int} {n : Nat} {pre post : List Int} {x : Int} (h : rng lo n = pre ++ x :: post) : x = lo + pre.length ∧ pre.length < n := by
  have h1 : (rng lo n)[pre.length]? = some x := by rw [h]; simp
  have hl : pre.length < n := by
    have := (List.getElem?_eq_some_iff.mp h1).1
    rwa [rng_len] at this
  rw [rng_get hl] at h1
  exact ⟨(Option.some.inj h1).symm, hl⟩
end T
set_option Elab.async false
set_option linter.all false
set_option maxRecDepth 100000
set_option maxHeartbeats 40000000
set_option synthInstance.maxSize 100000
set_option synthInstance.maxHeartbeats 400000
namespace Law
open PySem PySem.Spec PyProof.Rows L2 T
open C8 (InsC)
open ClX (CRead CVal)
variable [TabsC]
def topS (i : Nat) : Stmt := PySem.Challenge.pw_voucherstack_k21_hindrances_in_orders.main.body.getD i (.Pass ⟨0, 0, 0, 0⟩)
abbrev s_law_cell : Stmt := topS 31
abbrev s_law_mixed : Stmt := topS 30
abbrev s_law_parents : Stmt := topS 34
abbrev s_law_coins : Stmt := topS 33
abbrev s_law_basket : Stmt := topS 35
abbrev s_law_begun : Stmt := topS 40
abbrev s_law_voucher : Stmt := topS 38
abbrev s_Marks_init : Stmt := inClass (topS 24) 0
abbrev s_Voucher_init : Stmt := inClass (topS 25) 0
abbrev s_Off_init : Stmt := inClass (topS 26) 0
abbrev s_Share_init : Stmt := inClass (topS 27) 0
abbrev s_law_made : Stmt := topS 39
abbrev s_Till_init : Stmt := inClass (topS 22) 0
abbrev s_Line_init : Stmt := inClass (topS 6) 0
abbrev s_Basket_init : Stmt := inClass (topS 7) 0
abbrev s_law_basket_made : Stmt := topS 36
abbrev s_law_order : Stmt := topS 37
abbrev s_piece_price : Stmt := topS 8
abbrev s_Standing_init : Stmt := inClass (topS 9) 0
abbrev s_never_beside : Stmt := topS 16
abbrev s_comes_late : Stmt := topS 17
abbrev s_under : Stmt := topS 4
abbrev s_about : Stmt := topS 11
abbrev s_hindrance : Stmt := topS 12
abbrev s_word_of : Stmt := topS 18
abbrev s_dealt : Stmt := topS 2
abbrev s_Off_wanted : Stmt := inClass (topS 26) 1
abbrev s_Share_wanted : Stmt := inClass (topS 27) 1
abbrev s_Voucher_wanted : Stmt := inClass (topS 25) 1
abbrev s_Voucher_wanted_carriage : Stmt := inClass (topS 25) 2
abbrev s_Carriage_wanted_carriage : Stmt := inClass (topS 28) 0
abbrev s_cuts : Stmt := topS 13
abbrev s_after : Stmt := topS 14
abbrev s_lacking : Stmt := topS 19
abbrev s_fault : Stmt := topS 20
abbrev s_law_under : Stmt := topS 41
abbrev s_law_about : Stmt := topS 42
abbrev s_law_hindrance : Stmt := topS 43
abbrev s_law_used : Stmt := topS 44
abbrev s_law_due : Stmt := topS 45
abbrev s_law_alike : Stmt := topS 32
abbrev s_law : Stmt := topS 46
theorem sc_law_cell : FnScope ["_law_script", "_law_k"] ["_law_script", "_law_k"] (defScope s_law_cell) := ⟨rfl, rfl, rfl, by decide +kernel, rfl, by decide +kernel, by decide +kernel⟩
theorem sc_law_mixed : FnScope ["_law_cell_here", "_law_k", "_law_once"] ["_law_cell_here", "_law_k"] (defScope s_law_mixed) := ⟨rfl, rfl, rfl, by decide +kernel, rfl, by decide +kernel, by decide +kernel⟩
theorem sc_law_parents : FnScope ["_law_cell_here", "_law_parents_here", "_law_k", "_law_drawn"] ["_law_cell_here"] (defScope s_law_parents) := ⟨rfl, rfl, rfl, by decide +kernel, rfl, by decide +kernel, by decide +kernel⟩
theorem sc_law_coins : FnScope ["_law_drawn", "_law_great"] ["_law_drawn", "_law_great"] (defScope s_law_coins) := ⟨rfl, rfl, rfl, by decide +kernel, rfl, by decide +kernel, by decide +kernel⟩
theorem sc_law_basket : FnScope ["_law_cell_here", "_law_kinds", "_law_great", "_law_head", "_law_lines", "_law_k", "_law_drawn", "_law_many", "_law_special", "_law_line"] ["_law_cell_here", "_law_kinds", "_law_great"] (defScope s_law_basket) := ⟨rfl, rfl, rfl, by decide +kernel, rfl, by decide +kernel, by decide +kernel⟩
theorem sc_law_begun : FnScope ["_law_told", "_law_state", "_law_k", "_law_line", "_law_piece"] ["_law_told"] (defScope s_law_begun) := ⟨rfl, rfl, rfl, by decide +kernel, rfl, by decide +kernel, by decide +kernel⟩
theorem sc_law_voucher : FnScope ["_law_cell_here", "_law_kinds", "_law_great", "_law_total", "_law_drawn", "_law_other", "_law_needs", "_law_kind", "_law_marks"] ["_law_cell_here", "_law_kinds", "_law_great", "_law_total"] (defScope s_law_voucher) := ⟨rfl, rfl, rfl, by decide +kernel, rfl, by decide +kernel, by decide +kernel⟩
theorem sc_Marks_init : FnScope ["self", "kind", "needs", "most", "member", "once", "lone"] ["self", "kind", "needs", "most", "member", "once", "lone"] (defScope s_Marks_init) := ⟨rfl, rfl, rfl, by decide +kernel, rfl, by decide +kernel, by decide +kernel⟩
theorem sc_Voucher_init : FnScope ["self", "marks"] ["self", "marks"] (defScope s_Voucher_init) := ⟨rfl, rfl, rfl, by decide +kernel, rfl, by decide +kernel, by decide +kernel⟩
theorem sc_Off_init : FnScope ["self", "amount", "marks"] ["self", "amount", "marks"] (defScope s_Off_init) := ⟨rfl, rfl, rfl, by decide +kernel, rfl, by decide +kernel, by decide +kernel⟩
theorem sc_Share_init : FnScope ["self", "share", "by_line", "marks"] ["self", "share", "by_line", "marks"] (defScope s_Share_init) := ⟨rfl, rfl, rfl, by decide +kernel, rfl, by decide +kernel, by decide +kernel⟩
theorem sc_law_made : FnScope ["_law_told", "_law_marks", "_law_own"] ["_law_told"] (defScope s_law_made) := ⟨rfl, rfl, rfl, by decide +kernel, rfl, by decide +kernel, by decide +kernel⟩
theorem sc_Till_init : FnScope ["self", "parents", "vouchers", "rules", "back"] ["self", "parents", "vouchers", "rules", "back"] (defScope s_Till_init) := ⟨rfl, rfl, rfl, by decide +kernel, rfl, by decide +kernel, by decide +kernel⟩
theorem sc_Line_init : FnScope ["self", "kind", "price", "many", "special"] ["self", "kind", "price", "many", "special"] (defScope s_Line_init) := ⟨rfl, rfl, rfl, by decide +kernel, rfl, by decide +kernel, by decide +kernel⟩
theorem sc_Basket_init : FnScope ["self", "lines", "carriage", "member"] ["self", "lines", "carriage", "member"] (defScope s_Basket_init) := ⟨rfl, rfl, rfl, by decide +kernel, rfl, by decide +kernel, by decide +kernel⟩
theorem sc_law_basket_made : FnScope ["_law_told", "_law_lines", "_law_kind", "_law_price", "_law_many", "_law_special"] ["_law_told"] (defScope s_law_basket_made) := ⟨rfl, rfl, rfl, by decide +kernel, rfl, by decide +kernel, by decide +kernel⟩
theorem sc_law_order : FnScope ["_law_cell_here", "_law_many", "_law_j"] ["_law_cell_here", "_law_many"] (defScope s_law_order) := ⟨rfl, rfl, rfl, by decide +kernel, rfl, by decide +kernel, by decide +kernel⟩
theorem sc_piece_price : FnScope ["line", "member"] ["line", "member"] (defScope s_piece_price) := ⟨rfl, rfl, rfl, by decide +kernel, rfl, by decide +kernel, by decide +kernel⟩
theorem sc_Standing_init : FnScope ["self", "basket", "at", "line", "piece"] ["self", "basket"] (defScope s_Standing_init) := ⟨rfl, rfl, rfl, by decide +kernel, rfl, by decide +kernel, by decide +kernel⟩
theorem sc_never_beside : FnScope ["till", "ahead", "voucher", "word", "one", "other"] ["till", "ahead", "voucher"] (defScope s_never_beside) := ⟨rfl, rfl, rfl, by decide +kernel, rfl, by decide +kernel, by decide +kernel⟩
theorem sc_comes_late : FnScope ["till", "ahead", "voucher", "word", "one", "other"] ["till", "ahead", "voucher"] (defScope s_comes_late) := ⟨rfl, rfl, rfl, by decide +kernel, rfl, by decide +kernel, by decide +kernel⟩
theorem sc_under : FnScope ["parents", "one", "other"] ["parents", "one", "other"] (defScope s_under) := ⟨rfl, rfl, rfl, by decide +kernel, rfl, by decide +kernel, by decide +kernel⟩
theorem sc_about : FnScope ["voucher", "parents", "basket", "standing", "marks", "found", "piece", "line"] ["voucher", "parents", "basket", "standing"] (defScope s_about) := ⟨rfl, rfl, rfl, by decide +kernel, rfl, by decide +kernel, by decide +kernel⟩
theorem sc_hindrance : FnScope ["voucher", "parents", "basket", "standing", "pieces", "piece"] ["voucher", "parents", "basket", "standing"] (defScope s_hindrance) := ⟨rfl, rfl, rfl, by decide +kernel, rfl, by decide +kernel, by decide +kernel⟩
theorem sc_word_of : FnScope ["till", "basket", "hand", "ahead", "voucher", "standing", "used"] ["till", "basket", "hand", "ahead", "voucher", "standing"] (defScope s_word_of) := ⟨rfl, rfl, rfl, by decide +kernel, rfl, by decide +kernel, by decide +kernel⟩
theorem sc_dealt : FnScope ["cut", "weights", "whole", "parts", "upto", "given_out", "weight", "share"] ["cut", "weights"] (defScope s_dealt) := ⟨rfl, rfl, rfl, by decide +kernel, rfl, by decide +kernel, by decide +kernel⟩
theorem sc_Off_wanted : FnScope ["self", "prices", "owners"] ["self", "prices", "owners"] (defScope s_Off_wanted) := ⟨rfl, rfl, rfl, by decide +kernel, rfl, by decide +kernel, by decide +kernel⟩
theorem sc_Share_wanted : FnScope ["self", "prices", "owners", "told", "line", "places", "own", "at", "part"] ["self", "prices", "owners"] (defScope s_Share_wanted) := ⟨rfl, rfl, rfl, by decide +kernel, rfl, by decide +kernel, by decide +kernel⟩
theorem sc_Voucher_wanted : FnScope ["self", "prices", "owners"] ["self", "prices", "owners"] (defScope s_Voucher_wanted) := ⟨rfl, rfl, rfl, by decide +kernel, rfl, by decide +kernel, by decide +kernel⟩
theorem sc_Voucher_wanted_carriage : FnScope ["self", "carriage"] ["self", "carriage"] (defScope s_Voucher_wanted_carriage) := ⟨rfl, rfl, rfl, by decide +kernel, rfl, by decide +kernel, by decide +kernel⟩
theorem sc_Carriage_wanted_carriage : FnScope ["self", "carriage"] ["self", "carriage"] (defScope s_Carriage_wanted_carriage) := ⟨rfl, rfl, rfl, by decide +kernel, rfl, by decide +kernel, by decide +kernel⟩
theorem sc_cuts : FnScope ["voucher", "parents", "basket", "standing", "pieces", "prices", "wanted", "fee", "most", "told", "piece", "cut"] ["voucher", "parents", "basket", "standing"] (defScope s_cuts) := ⟨rfl, rfl, rfl, by decide +kernel, rfl, by decide +kernel, by decide +kernel⟩
theorem sc_after : FnScope ["voucher", "parents", "basket", "standing", "told", "fee", "left", "piece", "cut", "price"] ["voucher", "parents", "basket", "standing"] (defScope s_after) := ⟨rfl, rfl, rfl, by decide +kernel, rfl, by decide +kernel, by decide +kernel⟩
theorem sc_lacking : FnScope ["till", "order", "rule"] ["till", "order"] (defScope s_lacking) := ⟨rfl, rfl, rfl, by decide +kernel, rfl, by decide +kernel, by decide +kernel⟩
theorem sc_fault : FnScope ["till", "basket", "hand", "order", "standing", "ahead", "place", "voucher", "word"] ["till", "basket", "hand", "order"] (defScope s_fault) := ⟨rfl, rfl, rfl, by decide +kernel, rfl, by decide +kernel, by decide +kernel⟩
theorem sc_law_under : FnScope ["_law_parents_here", "_law_one", "_law_other"] ["_law_parents_here", "_law_one", "_law_other"] (defScope s_law_under) := ⟨rfl, rfl, rfl, by decide +kernel, rfl, by decide +kernel, by decide +kernel⟩
theorem sc_law_about : FnScope ["_law_voucher_here", "_law_parents_here", "_law_told", "_law_state", "_law_marks", "_law_found", "_law_piece", "_law_owner", "_law_fits"] ["_law_voucher_here", "_law_parents_here", "_law_told", "_law_state"] (defScope s_law_about) := ⟨rfl, rfl, rfl, by decide +kernel, rfl, by decide +kernel, by decide +kernel⟩
theorem sc_law_hindrance : FnScope ["_law_voucher_here", "_law_told", "_law_pieces", "_law_state", "_law_marks", "_law_piece"] ["_law_voucher_here", "_law_told", "_law_pieces", "_law_state"] (defScope s_law_hindrance) := ⟨rfl, rfl, rfl, by decide +kernel, rfl, by decide +kernel, by decide +kernel⟩
theorem sc_law_used : FnScope ["_law_voucher_here", "_law_pieces", "_law_state", "_law_total", "_law_cut", "_law_upto", "_law_gone", "_law_piece", "_law_part"] ["_law_voucher_here", "_law_pieces", "_law_state"] (defScope s_law_used) := ⟨rfl, rfl, rfl, by decide +kernel, rfl, by decide +kernel, by decide +kernel⟩
theorem sc_law_due : FnScope ["_law_world", "_law_order_here", "_law_state", "_law_place", "_law_number", "_law_voucher_here", "_law_pieces", "_law_word", "_law_rule"] ["_law_world", "_law_order_here"] (defScope s_law_due) := ⟨rfl, rfl, rfl, by decide +kernel, rfl, by decide +kernel, by decide +kernel⟩
theorem sc_law_alike : FnScope ["_law_found", "_law_due_here", "_law_one", "_law_other"] ["_law_found", "_law_due_here"] (defScope s_law_alike) := ⟨rfl, rfl, rfl, by decide +kernel, rfl, by decide +kernel, by decide +kernel⟩
theorem sc_law : FnScope ["_law_script", "_law_cell_here", "_law_world", "_law_kinds", "_law_total", "_law_many", "_law_k", "_law_drawn", "_law_own", "_law_till", "_law_basket_here", "_law_one", "_law_order_here", "_law_told"] ["_law_script"] (defScope s_law) := ⟨rfl, rfl, rfl, by decide +kernel, rfl, by decide +kernel, by decide +kernel⟩
structure MarksD where
  f_kind : (Option Int)
  f_needs : Int
  f_most : (Option Int)
  f_member : Bool
  f_once : Bool
  f_lone : Bool
abbrev o_Marks (K : PySem.W.Frag) (mg : Str → Option Value) (d : MarksD) : OR := oC (wI (Gb.mk K mg) "Marks" ["kind", "needs", "most", "member", "once", "lone"]) [(oI (Py.r (Gb.mk K mg) (d.f_kind : (Option Int)))), (oI (Py.r (Gb.mk K mg) (d.f_needs : Int))), (oI (Py.r (Gb.mk K mg) (d.f_most : (Option Int)))), (oI (Py.r (Gb.mk K mg) (d.f_member : Bool))), (oI (Py.r (Gb.mk K mg) (d.f_once : Bool))), (oI (Py.r (Gb.mk K mg) (d.f_lone : Bool)))]
instance : Py MarksD := ⟨fun g d => rIns g "Marks" ["kind", "needs", "most", "member", "once", "lone"] [Py.r g d.f_kind, Py.r g d.f_needs, Py.r g d.f_most, Py.r g d.f_member, Py.r g d.f_once, Py.r g d.f_lone]⟩
instance : Nz MarksD := ⟨fun h => rIns_nz h⟩
theorem z_Marks {K : PySem.W.Frag} {mg : Str → Option Value} (d : MarksD) : Frz (o_Marks K mg d) (Py.r (Gb.mk K mg) d) := frz_C (.cons frz_I (.cons frz_I (.cons frz_I (.cons frz_I (.cons frz_I (.cons frz_I (.nil)))))))
structure OffD where
  f_marks : (Option MarksD)
  f_amount : Int
abbrev o_Off (K : PySem.W.Frag) (mg : Str → Option Value) (d : OffD) : OR := oC (wI (Gb.mk K mg) "Off" ["marks", "amount"]) [(oI (Py.r (Gb.mk K mg) (d.f_marks : (Option MarksD)))), (oI (Py.r (Gb.mk K mg) (d.f_amount : Int)))]
instance : Py OffD := ⟨fun g d => rIns g "Off" ["marks", "amount"] [Py.r g d.f_marks, Py.r g d.f_amount]⟩
instance : Nz OffD := ⟨fun h => rIns_nz h⟩
theorem z_Off {K : PySem.W.Frag} {mg : Str → Option Value} (d : OffD) : Frz (o_Off K mg d) (Py.r (Gb.mk K mg) d) := frz_C (.cons frz_I (.cons frz_I (.nil)))
structure ShareD where
  f_marks : (Option MarksD)
  f_share : Int
  f_by_line : Bool
abbrev o_Share (K : PySem.W.Frag) (mg : Str → Option Value) (d : ShareD) : OR := oC (wI (Gb.mk K mg) "Share" ["marks", "share", "by_line"]) [(oI (Py.r (Gb.mk K mg) (d.f_marks : (Option MarksD)))), (oI (Py.r (Gb.mk K mg) (d.f_share : Int))), (oI (Py.r (Gb.mk K mg) (d.f_by_line : Bool)))]
instance : Py ShareD := ⟨fun g d => rIns g "Share" ["marks", "share", "by_line"] [Py.r g d.f_marks, Py.r g d.f_share, Py.r g d.f_by_line]⟩
instance : Nz ShareD := ⟨fun h => rIns_nz h⟩
theorem z_Share {K : PySem.W.Frag} {mg : Str → Option Value} (d : ShareD) : Frz (o_Share K mg d) (Py.r (Gb.mk K mg) d) := frz_C (.cons frz_I (.cons frz_I (.cons frz_I (.nil))))
structure CarriageD where
  f_marks : (Option MarksD)
abbrev o_Carriage (K : PySem.W.Frag) (mg : Str → Option Value) (d : CarriageD) : OR := oC (wI (Gb.mk K mg) "Carriage" ["marks"]) [(oI (Py.r (Gb.mk K mg) (d.f_marks : (Option MarksD))))]
instance : Py CarriageD := ⟨fun g d => rIns g "Carriage" ["marks"] [Py.r g d.f_marks]⟩
instance : Nz CarriageD := ⟨fun h => rIns_nz h⟩
theorem z_Carriage {K : PySem.W.Frag} {mg : Str → Option Value} (d : CarriageD) : Frz (o_Carriage K mg d) (Py.r (Gb.mk K mg) d) := frz_C (.cons frz_I (.nil))
inductive VoucherD where
  | c_Off (o : OffD)
  | c_Share (o : ShareD)
  | c_Carriage (o : CarriageD)
instance : Py VoucherD := ⟨fun g x => match x with | .c_Off o => Py.r g o | .c_Share o => Py.r g o | .c_Carriage o => Py.r g o⟩
instance : Nz VoucherD := ⟨fun {g a I v} h => by cases a with | c_Off o => exact Nz.nz (α := OffD) h | c_Share o => exact Nz.nz (α := ShareD) h | c_Carriage o => exact Nz.nz (α := CarriageD) h⟩
def VoucherD.f_marks : VoucherD → (Option MarksD)
  | .c_Off o => o.f_marks
  | .c_Share o => o.f_marks
  | .c_Carriage o => o.f_marks
structure TillD where
  f_parents : (List (Option Int))
  f_vouchers : (List VoucherD)
  f_rules : (List (T3 Str Int Int))
  f_back : Str
abbrev o_Till (K : PySem.W.Frag) (mg : Str → Option Value) (d : TillD) : OR := oC (wI (Gb.mk K mg) "Till" ["parents", "vouchers", "rules", "back"]) [(oF (rl (Gb.mk K mg) (d.f_parents : (List (Option Int))))), (oF (rl (Gb.mk K mg) (d.f_vouchers : (List VoucherD)))), (oF (rl (Gb.mk K mg) (d.f_rules : (List (T3 Str Int Int))))), (oI (Py.r (Gb.mk K mg) (d.f_back : Str)))]
instance : Py TillD := ⟨fun g d => rIns g "Till" ["parents", "vouchers", "rules", "back"] [Py.r g d.f_parents, Py.r g d.f_vouchers, Py.r g d.f_rules, Py.r g d.f_back]⟩
instance : Nz TillD := ⟨fun h => rIns_nz h⟩
theorem z_Till {K : PySem.W.Frag} {mg : Str → Option Value} (d : TillD) : Frz (o_Till K mg d) (Py.r (Gb.mk K mg) d) := frz_C (.cons frz_F (.cons frz_F (.cons frz_F (.cons frz_I (.nil)))))
structure LineD where
  f_kind : Int
  f_price : Int
  f_many : Int
  f_special : (Option Int)
abbrev o_Line (K : PySem.W.Frag) (mg : Str → Option Value) (d : LineD) : OR := oC (wI (Gb.mk K mg) "Line" ["kind", "price", "many", "special"]) [(oI (Py.r (Gb.mk K mg) (d.f_kind : Int))), (oI (Py.r (Gb.mk K mg) (d.f_price : Int))), (oI (Py.r (Gb.mk K mg) (d.f_many : Int))), (oI (Py.r (Gb.mk K mg) (d.f_special : (Option Int))))]
instance : Py LineD := ⟨fun g d => rIns g "Line" ["kind", "price", "many", "special"] [Py.r g d.f_kind, Py.r g d.f_price, Py.r g d.f_many, Py.r g d.f_special]⟩
instance : Nz LineD := ⟨fun h => rIns_nz h⟩
theorem z_Line {K : PySem.W.Frag} {mg : Str → Option Value} (d : LineD) : Frz (o_Line K mg d) (Py.r (Gb.mk K mg) d) := frz_C (.cons frz_I (.cons frz_I (.cons frz_I (.cons frz_I (.nil)))))
structure BasketD where
  f_lines : (List LineD)
  f_carriage : Int
  f_member : Bool
abbrev o_Basket (K : PySem.W.Frag) (mg : Str → Option Value) (d : BasketD) : OR := oC (wI (Gb.mk K mg) "Basket" ["lines", "carriage", "member"]) [(oF (rl (Gb.mk K mg) (d.f_lines : (List LineD)))), (oI (Py.r (Gb.mk K mg) (d.f_carriage : Int))), (oI (Py.r (Gb.mk K mg) (d.f_member : Bool)))]
instance : Py BasketD := ⟨fun g d => rIns g "Basket" ["lines", "carriage", "member"] [Py.r g d.f_lines, Py.r g d.f_carriage, Py.r g d.f_member]⟩
instance : Nz BasketD := ⟨fun h => rIns_nz h⟩
theorem z_Basket {K : PySem.W.Frag} {mg : Str → Option Value} (d : BasketD) : Frz (o_Basket K mg d) (Py.r (Gb.mk K mg) d) := frz_C (.cons frz_F (.cons frz_I (.cons frz_I (.nil))))
structure StandingD where
  f_owners : (List Int)
  f_prices : (List Int)
  f_carriage : Int
  f_marked : (List Bool)
abbrev o_Standing (K : PySem.W.Frag) (mg : Str → Option Value) (d : StandingD) : OR := oC (wI (Gb.mk K mg) "Standing" ["owners", "prices", "carriage", "marked"]) [(oF (rl (Gb.mk K mg) (d.f_owners : (List Int)))), (oF (rl (Gb.mk K mg) (d.f_prices : (List Int)))), (oI (Py.r (Gb.mk K mg) (d.f_carriage : Int))), (oF (rl (Gb.mk K mg) (d.f_marked : (List Bool))))]
instance : Py StandingD := ⟨fun g d => rIns g "Standing" ["owners", "prices", "carriage", "marked"] [Py.r g d.f_owners, Py.r g d.f_prices, Py.r g d.f_carriage, Py.r g d.f_marked]⟩
instance : Nz StandingD := ⟨fun h => rIns_nz h⟩
theorem z_Standing {K : PySem.W.Frag} {mg : Str → Option Value} (d : StandingD) : Frz (o_Standing K mg d) (Py.r (Gb.mk K mg) d) := frz_C (.cons frz_F (.cons frz_F (.cons frz_I (.cons frz_F (.nil)))))
@[irreducible] def M.law_cell (x_law_script : (List Int)) (x_law_k : Int) : Option Int :=
  (if (decide (x_law_k < (x_law_script.length : Int))) = true then (atO x_law_script x_law_k) else some (0 : Int))
@[irreducible] def M.law_mixed (x_law_cell_here : Int) (x_law_k : Int) : Option Int :=
  (let x_law_once : Int := (((((x_law_cell_here % (1000000007 : Int)) + ((7 : Int) * x_law_k)) + (1 : Int)) * (48271 : Int)) % (2147483647 : Int)); ((mulO x_law_once (((x_law_once % (1009 : Int)) + x_law_k) + (3 : Int))) >>= fun v1 => some ((v1 % (998244353 : Int)))))
@[irreducible] def M.law_parents (x_law_cell_here : Int) : Option (List (Option Int)) :=
  (let x_law_parents_here : (List (Option Int)) := ((none : (Option Int)) :: ([] : (List (Option Int)))); (((((M.law_mixed x_law_cell_here (1 : Int)) >>= fun v1 => some ((v1 % (6 : Int)))) >>= fun v2 => some ((1 : Int) + v2)) >>= fun v3 => (rng2O (1 : Int) v3)) >>= fun v14 => (loopN (fun (z4 : (List (Option Int))) (x_law_k : Int) => ((M.law_mixed x_law_cell_here ((1 : Int) + x_law_k)) >>= fun x_law_drawn => ((((((modO (x_law_drawn / (3 : Int)) x_law_k) >>= fun v5 => some ((some v5 : (Option Int)))) >>= fun v8 => (((modO (x_law_drawn / (3 : Int)) x_law_k) >>= fun v6 => some ((some v6 : (Option Int)))) >>= fun v7 => some (v7 :: ([] : (List (Option Int))))) >>= fun v9 => some (v8 :: v9)) >>= fun v10 => some ((none : (Option Int)) :: v10)) >>= fun v11 => (atO v11 (x_law_drawn % (3 : Int)))) >>= fun v12 => (appO z4 v12 >>= fun x_law_parents_here => some x_law_parents_here)))) v14 x_law_parents_here >>= fun z13 => some z13)))
@[irreducible] def M.law_coins (x_law_drawn : Int) (x_law_great : Bool) : Option Int :=
  (if x_law_great = true then (atO (((x_law_drawn * (1000003 : Int)) % (1000000000001 : Int)) :: (((1000000000000 : Int) - ((x_law_drawn / (4 : Int)) % (3 : Int))) :: (((x_law_drawn / (4 : Int)) % (9 : Int)) :: ((0 : Int) :: ([] : (List Int)))))) (x_law_drawn % (4 : Int))) else (atO (((x_law_drawn / (4 : Int)) % (7 : Int)) :: (((x_law_drawn / (4 : Int)) % (40 : Int)) :: (((x_law_drawn / (4 : Int)) % (300 : Int)) :: ((0 : Int) :: ([] : (List Int)))))) (x_law_drawn % (4 : Int))))
@[irreducible] def M.law_basket (x_law_cell_here : Int) (x_law_kinds : Int) (x_law_great : Bool) : Option (T3 (List (T4 Int Int Int (Option Int))) Int Bool) :=
  ((M.law_mixed x_law_cell_here (21 : Int)) >>= fun x_law_head => (let x_law_lines : (List (T4 Int Int Int (Option Int))) := ([] : (List (T4 Int Int Int (Option Int)))); (((atO ((1 : Int) :: ((2 : Int) :: ((3 : Int) :: ((4 : Int) :: ((2 : Int) :: ([] : (List Int))))))) (x_law_head % (5 : Int))) >>= fun v1 => (rng1O v1)) >>= fun v19 => (loopN (fun (z2 : (List (T4 Int Int Int (Option Int)))) (x_law_k : Int) => ((M.law_mixed x_law_cell_here ((22 : Int) + x_law_k)) >>= fun x_law_drawn => ((atO (((x_law_drawn / (8 : Int)) % (5 : Int)) :: ((20 : Int) :: ([] : (List Int)))) (b2z (decide ((x_law_drawn % (8 : Int)) = (7 : Int))))) >>= fun x_law_many => (((((((M.law_coins (x_law_drawn / (1000 : Int)) x_law_great) >>= fun v8 => some ((some v8 : (Option Int)))) >>= fun v9 => some (v9 :: ([] : (List (Option Int))))) >>= fun v10 => some ((none : (Option Int)) :: v10)) >>= fun v11 => some ((none : (Option Int)) :: v11)) >>= fun v12 => (atO v12 ((x_law_drawn / (40 : Int)) % (3 : Int)))) >>= fun x_law_special => (((modO (x_law_drawn / (120 : Int)) x_law_kinds) >>= fun v13 => (M.law_coins (x_law_drawn / (7 : Int)) x_law_great) >>= fun v14 => some (T4.mk v13 v14 x_law_many x_law_special)) >>= fun v15 => (appO z2 v15 >>= fun x_law_lines => some x_law_lines)))))) v19 x_law_lines >>= fun z16 => (let z17 : (List (T4 Int Int Int (Option Int))) := if (decide ((z16.map (fun (x_law_line : (T4 Int Int Int (Option Int))) => x_law_line.x2)).sum > (30 : Int))) = true then (let x_law_lines : (List (T4 Int Int Int (Option Int))) := (cutO z16 none (some (1 : Int))); x_law_lines) else z16; ((M.law_coins (x_law_head / (5 : Int)) x_law_great) >>= fun v18 => some (T3.mk z17 v18 (decide (((x_law_head / (5 : Int)) % (3 : Int)) = (1 : Int))))))))))
@[irreducible] def M.law_begun (x_law_told : (T3 (List (T4 Int Int Int (Option Int))) Int Bool)) : Option (HR [("prices" : Str), ("owners" : Str), ("marked" : Str)] (HC (List Int) (HC (List Int) (HC (List Bool) HU)))) :=
  (let x_law_state : (HR [("prices" : Str), ("owners" : Str), ("marked" : Str)] (HC (List Int) (HC (List Int) (HC (List Bool) HU)))) := (HR.mk (ns := [("prices" : Str), ("owners" : Str), ("marked" : Str)]) (HC.mk ([] : (List Int)) (HC.mk ([] : (List Int)) (HC.mk (x_law_told.x0.map (fun (x_law_line : (T4 Int Int Int (Option Int))) => false)) HU.mk)))); (loopN (fun (z3 : ((List Int) × (List Int) × (List Bool))) (it4 : (T2 Int (T4 Int Int Int (Option Int)))) => ((rng1O it4.x1.x2) >>= fun v10 => (loopN (fun (z5 : ((List Int) × (List Int) × (List Bool))) (x_law_piece : Int) => (appO z5.2.1 it4.x0 >>= fun x_law_state_1 => ((if (x_law_told.x2 && it4.x1.x3.isSome) = true then (it4.x1.x3 >>= fun v8 => (appO z5.1 v8 >>= fun x_law_state_0 => some (x_law_state_0, x_law_state_1, z5.2.2))) else (appO z5.1 it4.x1.x1 >>= fun x_law_state_0 => some (x_law_state_0, x_law_state_1, z5.2.2))) >>= (fun (z6 : ((List Int) × (List Int) × (List Bool))) => some (z6.1, z6.2.1, z6.2.2))))) v10 (z3.1, z3.2.1, z3.2.2) >>= fun z9 => some (z9.1, z9.2.1, z9.2.2)))) (enumL x_law_told.x0) (x_law_state.s.h, x_law_state.s.t.h, x_law_state.s.t.t.h) >>= fun z11 => some (HR.mk (ns := [("prices" : Str), ("owners" : Str), ("marked" : Str)]) (HC.mk z11.1 (HC.mk z11.2.1 (HC.mk z11.2.2 HU.mk))))))
@[irreducible] def M.law_voucher (x_law_cell_here : Int) (x_law_kinds : Int) (x_law_great : Bool) (x_law_total : Int) : Option PyData :=
  ((M.law_mixed x_law_cell_here (13 : Int)) >>= fun x_law_drawn => ((M.law_mixed x_law_cell_here (14 : Int)) >>= fun x_law_other => ((((((((((M.law_coins x_law_other x_law_great) >>= fun v9 => some (v9 :: ([] : (List Int)))) >>= fun v10 => some ((x_law_total - (x_law_total / (3 : Int))) :: v10)) >>= fun v11 => some ((x_law_total / (2 : Int)) :: v11)) >>= fun v12 => some ((x_law_total + (1 : Int)) :: v12)) >>= fun v13 => some (x_law_total :: v13)) >>= fun v14 => some ((0 : Int) :: v14)) >>= fun v15 => some ((0 : Int) :: v15)) >>= fun v16 => (atO v16 ((x_law_drawn / (4 : Int)) % (7 : Int)))) >>= fun x_law_needs => (((((((modO (x_law_other / (3 : Int)) x_law_kinds) >>= fun v22 => some ((some v22 : (Option Int)))) >>= fun v23 => some (v23 :: ([] : (List (Option Int))))) >>= fun v24 => some ((none : (Option Int)) :: v24)) >>= fun v25 => some ((none : (Option Int)) :: v25)) >>= fun v26 => (atO v26 (x_law_other % (3 : Int)))) >>= fun x_law_kind => (let x_law_marks : (HT (HC (Option Int) (HC Int (HC (Option Int) (HC Bool (HC Bool (HC Bool HU))))))) := (HT.mk (HC.mk x_law_kind (HC.mk (min (1000000000000 : Int) x_law_needs) (HC.mk (none : (Option Int)) (HC.mk (decide (((x_law_other / (60 : Int)) % (8 : Int)) = (0 : Int))) (HC.mk false (HC.mk (decide (((x_law_other / (480 : Int)) % (2 : Int)) = (0 : Int))) HU.mk))))))); (if (decide ((x_law_drawn % (4 : Int)) < (2 : Int))) = true then ((((((M.law_coins (x_law_drawn / (28 : Int)) x_law_great) >>= fun v27 => some (v27 :: ([] : (List Int)))) >>= fun v28 => some ((1 : Int) :: v28)) >>= fun v29 => (atO v29 ((x_law_drawn / (28 : Int)) % (2 : Int)))) >>= fun v30 => some (T3.mk ("off" : Str) v30 x_law_marks)) >>= fun v31 => some ((PySem.W.Datum.toD (v31 : (T3 Str Int (HT (HC (Option Int) (HC Int (HC (Option Int) (HC Bool (HC Bool (HC Bool HU)))))))))))) else (if (decide ((x_law_drawn % (4 : Int)) = (2 : Int))) = true then (((atO ((1 : Int) :: ((1000 : Int) :: (((1 : Int) + ((x_law_drawn / (84 : Int)) % (1000 : Int))) :: ([] : (List Int))))) ((x_law_drawn / (28 : Int)) % (3 : Int))) >>= fun v32 => some (T3.mk ("share" : Str) v32 x_law_marks)) >>= fun v33 => some ((PySem.W.Datum.toD (v33 : (T3 Str Int (HT (HC (Option Int) (HC Int (HC (Option Int) (HC Bool (HC Bool (HC Bool HU)))))))))))) else some (PySem.W.Datum.toD ((T2.mk ("carriage" : Str) x_law_marks) : (T2 Str (HT (HC (Option Int) (HC Int (HC (Option Int) (HC Bool (HC Bool (HC Bool HU)))))))))))))))))
@[irreducible] def M.Marks_init (x_kind : (Option Int)) (x_needs : Int) (x_most : (Option Int)) (x_member : Bool) (x_once : Bool) (x_lone : Bool) : MarksD :=
  (let x_self_kind : (Option Int) := x_kind; (let x_self_needs : Int := x_needs; (let x_self_most : (Option Int) := x_most; (let x_self_member : Bool := x_member; (let x_self_once : Bool := x_once; (let x_self_lone : Bool := x_lone; (MarksD.mk x_self_kind x_self_needs x_self_most x_self_member x_self_once x_self_lone)))))))
@[irreducible] def M.Voucher_init (x_marks : (Option MarksD)) : (Option MarksD) :=
  (let x_self_marks : (Option MarksD) := (if x_marks.isNone = true then (some (M.Marks_init (none : (Option Int)) ((0 : Int) : Int) (none : (Option Int)) (false : Bool) (false : Bool) (false : Bool)) : (Option MarksD)) else x_marks); x_self_marks)
@[irreducible] def M.Off_init (x_amount : Int) (x_marks : (Option MarksD)) : OffD :=
  (let r1 : (Option MarksD) := (M.Voucher_init x_marks); (let x_self_amount : Int := x_amount; (OffD.mk r1 x_self_amount)))
@[irreducible] def M.Voucher_init_1 (x_marks : (Option MarksD)) : (Option MarksD) :=
  (let x_self_marks : (Option MarksD) := (if x_marks.isNone = true then (some (M.Marks_init (none : (Option Int)) ((0 : Int) : Int) (none : (Option Int)) (false : Bool) (false : Bool) (false : Bool)) : (Option MarksD)) else x_marks); x_self_marks)
@[irreducible] def M.Share_init (x_share : Int) (x_by_line : Bool) (x_marks : (Option MarksD)) : ShareD :=
  (let r1 : (Option MarksD) := (M.Voucher_init_1 x_marks); (let x_self_share : Int := x_share; (let x_self_by_line : Bool := x_by_line; (ShareD.mk r1 x_self_share x_self_by_line))))
@[irreducible] def M.Voucher_init_2 (x_marks : (Option MarksD)) : CarriageD :=
  (let x_self_marks : (Option MarksD) := (if x_marks.isNone = true then (some (M.Marks_init (none : (Option Int)) ((0 : Int) : Int) (none : (Option Int)) (false : Bool) (false : Bool) (false : Bool)) : (Option MarksD)) else x_marks); (CarriageD.mk x_self_marks))
@[irreducible] def M.law_made (x_law_told : PyData) : Option VoucherD :=
  ((((lenDO x_law_told) >>= fun v3 => some (v3 - (1 : Int))) >>= fun v4 => (atDO x_law_told v4)) >>= fun x_law_marks => ((((atDO x_law_marks (0 : Int)) >>= fun v5 => (asOInt v5)) >>= fun v11 => ((atDO x_law_marks (1 : Int)) >>= fun v6 => (asInt v6)) >>= fun v12 => ((atDO x_law_marks (2 : Int)) >>= fun v7 => (asOInt v7)) >>= fun v13 => ((atDO x_law_marks (3 : Int)) >>= fun v8 => (asBool v8)) >>= fun v14 => ((atDO x_law_marks (4 : Int)) >>= fun v9 => (asBool v9)) >>= fun v15 => ((atDO x_law_marks (5 : Int)) >>= fun v10 => (asBool v10)) >>= fun v16 => some (M.Marks_init v11 v12 v13 v14 v15 v16)) >>= fun x_law_own => (((atDO x_law_told (0 : Int)) >>= fun v17 => (eqDO v17 (PySem.W.Datum.toD (("off" : Str) : Str)))) >>= fun v28 => (if v28 = true then ((((atDO x_law_told (1 : Int)) >>= fun v19 => (asInt v19)) >>= fun v20 => some (M.Off_init v20 ((some x_law_own : (Option MarksD))))) >>= fun v21 => some ((VoucherD.c_Off v21))) else (((atDO x_law_told (0 : Int)) >>= fun v22 => (eqDO v22 (PySem.W.Datum.toD (("share" : Str) : Str)))) >>= fun v27 => (if v27 = true then ((((atDO x_law_told (1 : Int)) >>= fun v24 => (asInt v24)) >>= fun v25 => some (M.Share_init v25 false ((some x_law_own : (Option MarksD))))) >>= fun v26 => some ((VoucherD.c_Share v26))) else some (VoucherD.c_Carriage ((M.Voucher_init_2 ((some x_law_own : (Option MarksD))))))))))))
@[irreducible] def M.Till_init (x_parents : (List (Option Int))) (x_vouchers : (List VoucherD)) (x_rules : (List (T3 Str Int Int))) (x_back : Str) : TillD :=
  (let x_self_parents : (List (Option Int)) := x_parents; (let x_self_vouchers : (List VoucherD) := x_vouchers; (let x_self_rules : (List (T3 Str Int Int)) := x_rules; (let x_self_back : Str := x_back; (TillD.mk x_self_parents x_self_vouchers x_self_rules x_self_back)))))
@[irreducible] def M.Line_init (x_kind : Int) (x_price : Int) (x_many : Int) (x_special : (Option Int)) : LineD :=
  (let x_self_kind : Int := x_kind; (let x_self_price : Int := x_price; (let x_self_many : Int := x_many; (let x_self_special : (Option Int) := x_special; (LineD.mk x_self_kind x_self_price x_self_many x_self_special)))))
@[irreducible] def M.Basket_init (x_lines : (List LineD)) (x_carriage : Int) (x_member : Bool) : BasketD :=
  (let x_self_lines : (List LineD) := x_lines; (let x_self_carriage : Int := x_carriage; (let x_self_member : Bool := x_member; (BasketD.mk x_self_lines x_self_carriage x_self_member))))
@[irreducible] def M.law_basket_made (x_law_told : (T3 (List (T4 Int Int Int (Option Int))) Int Bool)) : BasketD :=
  (let x_law_lines : (List LineD) := (x_law_told.x0.map (fun (it3 : (T4 Int Int Int (Option Int))) => (M.Line_init it3.x0 it3.x1 it3.x2 it3.x3))); (M.Basket_init x_law_lines x_law_told.x1 x_law_told.x2))
@[irreducible] def M.law_order (x_law_cell_here : Int) (x_law_many : Int) : Option (List Int) :=
  ((((M.law_mixed x_law_cell_here (39 : Int)) >>= fun v1 => some ((v1 % (9 : Int)))) >>= fun v2 => (rng1O v2)) >>= fun v4 => (lcM (fun (x_law_j : Int) => ((M.law_mixed x_law_cell_here ((40 : Int) + x_law_j)) >>= fun v3 => (modO v3 x_law_many))) v4))
@[irreducible] def M.piece_price (x_line : LineD) (x_member : Bool) : Option Int :=
  (if (x_member && x_line.f_special.isSome) = true then x_line.f_special else some x_line.f_price)
@[irreducible] def M.Standing_init (x_basket : BasketD) : Option StandingD :=
  (let x_self_owners : (List Int) := ([] : (List Int)); (let x_self_prices : (List Int) := ([] : (List Int)); (let x_self_carriage : Int := x_basket.f_carriage; (let x_self_marked : (List Bool) := (x_basket.f_lines.map (fun (x_line : LineD) => false)); (loopN (fun (z3 : ((List Int) × (List Int) × Int × (List Bool))) (it4 : (T2 Int LineD)) => ((rng1O it4.x1.f_many) >>= fun v8 => (loopN (fun (z5 : ((List Int) × (List Int) × Int × (List Bool))) (x_piece : Int) => (appO z5.1 it4.x0 >>= fun x_self_owners => ((M.piece_price it4.x1 x_basket.f_member) >>= fun v6 => (appO z5.2.1 v6 >>= fun x_self_prices => some (x_self_owners, x_self_prices, z5.2.2.1, z5.2.2.2))))) v8 (z3.1, z3.2.1, z3.2.2.1, z3.2.2.2) >>= fun z7 => some (z7.1, z7.2.1, z7.2.2.1, z7.2.2.2)))) (enumL x_basket.f_lines) (x_self_owners, x_self_prices, x_self_carriage, x_self_marked) >>= fun z9 => some (StandingD.mk z9.1 z9.2.1 z9.2.2.1 z9.2.2.2))))))
@[irreducible] def M.never_beside (x_till : TillD) (x_ahead : (List Int)) (x_voucher : Int) : Option Bool :=
  (loopC (fun (z2 : Unit) (it3 : (T3 Str Int Int)) => ((if ((decide (it3.x0 = ("never" : Str))) && (((decide (it3.x1 = x_voucher)) && (decide (it3.x2 ∈ x_ahead))) || ((decide (it3.x2 = x_voucher)) && (decide (it3.x1 ∈ x_ahead))))) = true then some (Ctl.rt true) else some (Ctl.nx ())) : Option (Ctl Unit Unit Bool))) x_till.f_rules () >>= Ctl.seqT fun (z4 : Unit) => some false)
@[irreducible] def M.comes_late (x_till : TillD) (x_ahead : (List Int)) (x_voucher : Int) : Option Bool :=
  (loopC (fun (z2 : Unit) (it3 : (T3 Str Int Int)) => ((if ((decide (it3.x0 = ("ahead" : Str))) && ((decide (it3.x1 = x_voucher)) && (decide (it3.x2 ∈ x_ahead)))) = true then some (Ctl.rt true) else some (Ctl.nx ())) : Option (Ctl Unit Unit Bool))) x_till.f_rules () >>= Ctl.seqT fun (z4 : Unit) => some false)
@[irreducible] def M.under (x_parents : (List (Option Int))) (x_one : (Option Int)) (x_other : (Option Int)) : Option Bool :=
  (whileC (fun (z1 : (Option Int)) => some ((z1.isSome && (!decide (z1 = x_other))))) (fun (z1 : (Option Int)) => (((z1 >>= fun v5 => (atO x_parents v5)) >>= fun x_one => some (Ctl.nx x_one)) : Option (Ctl (Option Int) (Option Int) Bool))) 1000000 x_one >>= Ctl.seqT fun (z6 : (Option Int)) => some z6.isSome)
@[irreducible] def M.about (x_voucher : VoucherD) (x_parents : (List (Option Int))) (x_basket : BasketD) (x_standing : StandingD) : Option (List Int) :=
  (let x_marks : (Option MarksD) := x_voucher.f_marks; (let x_found : (List Int) := ([] : (List Int)); (loopC (fun (z3 : (List Int)) (it4 : (T2 Int Int)) => (((((x_marks >>= fun v6 => some (v6.f_kind)) >>= fun v7 => some (v7.isSome)) >>= fun v15 => (if v15 = true then (((((atO x_basket.f_lines it4.x1) >>= fun v8 => some (v8.f_kind)) >>= fun v11 => some ((some v11 : (Option Int)))) >>= fun v12 => (x_marks >>= fun v10 => some (v10.f_kind)) >>= fun v13 => M.under x_parents v12 v13) >>= fun v14 => some ((!v14))) else some false)) >>= fun v20 => (if v20 = true then some (Ctl.ct z3) else (((x_marks >>= fun v17 => some (v17.f_lone)) >>= fun v18 => (if v18 = true then (atO x_standing.f_marked it4.x1) else some false)) >>= fun v19 => (if v19 = true then some (Ctl.ct z3) else (appO z3 it4.x0 >>= fun x_found => some (Ctl.nx x_found)))))) : Option (Ctl (List Int) (List Int) (List Int)))) (enumL x_standing.f_owners) x_found >>= Ctl.seqT fun (z21 : (List Int)) => some z21)))
@[irreducible] def M.hindrance (x_voucher : VoucherD) (x_parents : (List (Option Int))) (x_basket : BasketD) (x_standing : StandingD) : Option (Option Str) :=
  (((x_voucher.f_marks >>= fun v2 => some (v2.f_member)) >>= fun v3 => (if v3 = true then some ((!x_basket.f_member)) else some false)) >>= fun v10 => (if v10 = true then some (some ("member" : Str) : (Option Str)) else ((M.about x_voucher x_parents x_basket x_standing) >>= fun x_pieces => (if (decide ((x_pieces.length : Int) = (0 : Int))) = true then some (some ("nothing" : Str) : (Option Str)) else ((((lcM (fun (x_piece : Int) => (atO x_standing.f_prices x_piece)) x_pieces) >>= fun v4 => some (v4.sum)) >>= fun v7 => (x_voucher.f_marks >>= fun v6 => some (v6.f_needs)) >>= fun v8 => some (decide (v7 < v8))) >>= fun v9 => (if v9 = true then some (some ("needs" : Str) : (Option Str)) else some (none : (Option Str))))))))
@[irreducible] def M.word_of (x_till : TillD) (x_basket : BasketD) (x_hand : (List Int)) (x_ahead : (List Int)) (x_voucher : Int) (x_standing : StandingD) : Option (Option Str) :=
  ((atO x_till.f_vouchers x_voucher) >>= fun x_used => (((atO x_hand x_voucher) >>= fun v1 => some (decide (((x_ahead.count x_voucher : Nat) : Int) ≥ v1))) >>= fun v8 => (if v8 = true then some (some ("held" : Str) : (Option Str)) else (((x_used.f_marks >>= fun v3 => some (v3.f_once)) >>= fun v4 => (if v4 = true then some ((decide (x_voucher ∈ x_ahead))) else some false)) >>= fun v7 => (if v7 = true then some (some ("once" : Str) : (Option Str)) else ((M.never_beside x_till x_ahead x_voucher) >>= fun v6 => (if v6 = true then some (some ("never" : Str) : (Option Str)) else ((M.comes_late x_till x_ahead x_voucher) >>= fun v5 => (if v5 = true then some (some ("ahead" : Str) : (Option Str)) else (M.hindrance x_used x_till.f_parents x_basket x_standing))))))))))
@[irreducible] def M.dealt (x_cut : Int) (x_weights : (List Int)) : Option (List Int) :=
  (let x_whole : Int := x_weights.sum; (let x_parts : (List Int) := ([] : (List Int)); (let x_upto : Int := (0 : Int); (let x_given_out : Int := (0 : Int); (loopN (fun (z1 : (Int × (List Int) × Int)) (x_weight : Int) => (let x_upto : Int := (z1.1 + x_weight); ((if (decide (x_whole > (0 : Int))) = true then ((mulO x_cut x_upto) >>= fun v3 => (divO v3 x_whole)) else some ((0 : Int))) >>= fun x_share => (appO z1.2.1 (x_share - z1.2.2) >>= fun x_parts => some (let x_given_out : Int := x_share; (x_upto, x_parts, x_given_out)))))) x_weights (x_upto, x_parts, x_given_out) >>= fun z4 => some z4.2.1)))))
@[irreducible] def M.Off_wanted (x_self : OffD) (x_prices : (List Int)) (x_owners : (List Int)) : Option (List Int) :=
  (M.dealt (min x_self.f_amount x_prices.sum) x_prices)
@[irreducible] def M.Share_wanted (x_self : ShareD) (x_prices : (List Int)) (x_owners : (List Int)) : Option (List Int) :=
  (if (!x_self.f_by_line) = true then (((mulO x_prices.sum x_self.f_share) >>= fun v1 => some ((v1 / (1000 : Int)))) >>= fun v2 => M.dealt v2 x_prices) else ((repO ((0 : Int) :: ([] : (List Int))) (x_prices.length : Int)) >>= fun x_told => ((sortSetO x_owners) >>= fun v23 => (loopN (fun (z3 : (List Int)) (x_line : Int) => ((rng1O (x_prices.length : Int)) >>= fun v21 => ((lcF (fun (x_at : Int) => ((atO x_owners x_at) >>= fun v8 => some (decide (v8 = x_line)))) (fun (x_at : Int) => some (x_at)) v21) >>= fun x_places => ((lcM (fun (x_at : Int) => (atO x_prices x_at)) x_places) >>= fun x_own => (((((mulO x_own.sum x_self.f_share) >>= fun v12 => some ((v12 / (1000 : Int)))) >>= fun v13 => M.dealt v13 x_own) >>= fun v14 => some (zipL x_places v14)) >>= fun v20 => (loopN (fun (z17 : (List Int)) (it18 : (T2 Int Int)) => (setO z17 it18.x0 it18.x1 >>= fun x_told => some x_told)) v20 z3 >>= fun z19 => some z19)))))) v23 x_told >>= fun z22 => some z22))))
@[irreducible] def M.Voucher_wanted (x_self : CarriageD) (x_prices : (List Int)) (x_owners : (List Int)) : Option (List Int) :=
  (repO ((0 : Int) :: ([] : (List Int))) (x_prices.length : Int))
@[irreducible] def M.Voucher_wanted_carriage (x_self : OffD) (x_carriage : Int) : Int :=
  (0 : Int)
@[irreducible] def M.Voucher_wanted_carriage_1 (x_self : ShareD) (x_carriage : Int) : Int :=
  (0 : Int)
@[irreducible] def M.Carriage_wanted_carriage (x_self : CarriageD) (x_carriage : Int) : Int :=
  x_carriage
@[irreducible] def M.cuts (x_voucher : VoucherD) (x_parents : (List (Option Int))) (x_basket : BasketD) (x_standing : StandingD) : Option (T2 (List Int) Int) :=
  ((M.about x_voucher x_parents x_basket x_standing) >>= fun x_pieces => ((lcM (fun (x_piece : Int) => (atO x_standing.f_prices x_piece)) x_pieces) >>= fun x_prices => (((lcM (fun (x_piece : Int) => (atO x_standing.f_owners x_piece)) x_pieces) >>= fun v2 => (match x_voucher with | .c_Off o => M.Off_wanted o x_prices v2 | .c_Share o => M.Share_wanted o x_prices v2 | .c_Carriage o => M.Voucher_wanted o x_prices v2)) >>= fun x_wanted => (let x_fee : Int := ((match x_voucher with | .c_Off o => M.Voucher_wanted_carriage o x_standing.f_carriage | .c_Share o => M.Voucher_wanted_carriage_1 o x_standing.f_carriage | .c_Carriage o => M.Carriage_wanted_carriage o x_standing.f_carriage)); ((x_voucher.f_marks >>= fun v6 => some (v6.f_most)) >>= fun x_most => ((if x_most.isSome = true then (x_most >>= fun v8 => some (decide ((x_wanted.sum + x_fee) > v8))) else some false) >>= fun v25 => ((if v25 = true then (((x_most >>= fun v19 => some (min v19 x_wanted.sum)) >>= fun v20 => M.dealt v20 x_wanted) >>= fun x_wanted => ((x_most >>= fun v24 => some (min v24 x_fee)) >>= fun x_fee => some (x_wanted, x_fee))) else some (x_wanted, x_fee)) >>= (fun (z9 : ((List Int) × Int)) => ((repO ((0 : Int) :: ([] : (List Int))) (x_standing.f_prices.length : Int)) >>= fun x_told => (loopN (fun (z12 : (List Int)) (it13 : (T2 Int Int)) => (setO z12 it13.x0 it13.x1 >>= fun x_told => some x_told)) (zipL x_pieces z9.1) x_told >>= fun z14 => some (T2.mk z14 z9.2)))))))))))
@[irreducible] def M.after (x_voucher : VoucherD) (x_parents : (List (Option Int))) (x_basket : BasketD) (x_standing : StandingD) : Option StandingD :=
  ((M.cuts x_voucher x_parents x_basket x_standing) >>= fun it1 => ((M.Standing_init x_basket) >>= fun x_left => (let x_left_prices : (List Int) := ((zipL x_standing.f_prices it1.x0).map (fun (it2 : (T2 Int Int)) => (it2.x0 - it2.x1))); (let x_left_carriage : Int := (x_standing.f_carriage - it1.x1); (let x_left_marked : (List Bool) := x_standing.f_marked; ((x_voucher.f_marks >>= fun v4 => some (v4.f_lone)) >>= fun v13 => ((if v13 = true then (loopN (fun (z8 : ((List Int) × (List Int) × Int × (List Bool))) (it9 : (T2 Int Int)) => ((if (decide (it9.x1 > (0 : Int))) = true then ((atO x_standing.f_owners it9.x0) >>= fun v11 => (setO z8.2.2.2 v11 true >>= fun x_left_marked => some (z8.1, z8.2.1, z8.2.2.1, x_left_marked))) else some (z8.1, z8.2.1, z8.2.2.1, z8.2.2.2)) >>= (fun (z10 : ((List Int) × (List Int) × Int × (List Bool))) => some (z10.1, z10.2.1, z10.2.2.1, z10.2.2.2)))) (enumL it1.x0) (x_left.f_owners, x_left_prices, x_left_carriage, x_left_marked) >>= fun z12 => some (z12.1, z12.2.1, z12.2.2.1, z12.2.2.2)) else some (x_left.f_owners, x_left_prices, x_left_carriage, x_left_marked)) >>= (fun (z5 : ((List Int) × (List Int) × Int × (List Bool))) => some (StandingD.mk z5.1 z5.2.1 z5.2.2.1 z5.2.2.2)))))))))
@[irreducible] def M.lacking (x_till : TillD) (x_order : (List Int)) : Option (Option (T3 Str Int Int)) :=
  (loopC (fun (z1 : Unit) (x_rule : (T3 Str Int Int)) => ((if ((decide (x_rule.x0 = ("only" : Str))) && ((decide (x_rule.x1 ∈ x_order)) && (!decide (x_rule.x2 ∈ x_order)))) = true then some (Ctl.rt (some x_rule : (Option (T3 Str Int Int)))) else some (Ctl.nx ())) : Option (Ctl Unit Unit (Option (T3 Str Int Int))))) x_till.f_rules () >>= Ctl.seqT fun (z2 : Unit) => some (none : (Option (T3 Str Int Int))))
@[irreducible] def M.fault (x_till : TillD) (x_basket : BasketD) (x_hand : (List Int)) (x_order : (List Int)) : Option (Option (T2 Int Str)) :=
  ((M.Standing_init x_basket) >>= fun x_standing => (let x_ahead : (List Int) := ([] : (List Int)); (loopC (fun (z5 : (StandingD × (List Int))) (it6 : (T2 Int Int)) => (((M.word_of x_till x_basket x_hand z5.2 it6.x1 z5.1) >>= fun x_word => (if x_word.isSome = true then (((x_word >>= fun v12 => some (T2.mk it6.x0 v12)) >>= fun v13 => some ((some v13 : (Option (T2 Int Str))))) >>= fun v14 => some (Ctl.rt v14)) else (((atO x_till.f_vouchers it6.x1) >>= fun v16 => M.after v16 x_till.f_parents x_basket z5.1) >>= fun x_standing => (appO z5.2 it6.x1 >>= fun x_ahead => some (Ctl.nx (x_standing, x_ahead)))))) : Option (Ctl (StandingD × (List Int)) (StandingD × (List Int)) (Option (T2 Int Str))))) (enumL x_order) (x_standing, x_ahead) >>= Ctl.seqT fun (z17 : (StandingD × (List Int))) => (((M.lacking x_till z17.2) >>= fun v18 => some (v18.isSome)) >>= fun v19 => (if v19 = true then some (some (T2.mk (z17.2.length : Int) ("only" : Str)) : (Option (T2 Int Str))) else some (none : (Option (T2 Int Str))))))))
@[irreducible] def M.law_under (x_law_parents_here : (List (Option Int))) (x_law_one : (Option Int)) (x_law_other : PyData) : Option Bool :=
  (whileC (fun (z1 : (Option Int)) => (if z1.isSome = true then (eqDO (PySem.W.Datum.toD (z1 : (Option Int))) x_law_other >>= fun c => some (!c)) else some false)) (fun (z1 : (Option Int)) => (((z1 >>= fun v5 => (atO x_law_parents_here v5)) >>= fun x_law_one => some (Ctl.nx x_law_one)) : Option (Ctl (Option Int) (Option Int) Bool))) 1000000 x_law_one >>= Ctl.seqT fun (z6 : (Option Int)) => some z6.isSome)
@[irreducible] def M.law_about (x_law_voucher_here : PyData) (x_law_parents_here : (List (Option Int))) (x_law_told : (T3 (List (T4 Int Int Int (Option Int))) Int Bool)) (x_law_state : (HR [("prices" : Str), ("owners" : Str), ("marked" : Str)] (HC (List Int) (HC (List Int) (HC (List Bool) HU))))) : Option (List Int) :=
  ((((lenDO x_law_voucher_here) >>= fun v3 => some (v3 - (1 : Int))) >>= fun v4 => (atDO x_law_voucher_here v4)) >>= fun x_law_marks => (let x_law_found : (List Int) := ([] : (List Int)); (loopN (fun (z7 : (List Int)) (it8 : (T2 Int Int)) => ((((atDO x_law_marks (0 : Int)) >>= fun v15 => some ((isND v15))) >>= fun v20 => (if v20 = true then some true else ((((atO x_law_told.x0 it8.x1) >>= fun v16 => some (v16.x0)) >>= fun v17 => some ((some v17 : (Option Int)))) >>= fun v18 => (atDO x_law_marks (0 : Int)) >>= fun v19 => M.law_under x_law_parents_here v18 v19))) >>= fun x_law_fits => ((if x_law_fits = true then ((((atDO x_law_marks (5 : Int)) >>= fun v21 => (asBool v21)) >>= fun v22 => (if v22 = true then (atO x_law_state.s.t.t.h it8.x1) else some false)) >>= fun v23 => some ((!v23))) else some false) >>= fun v25 => ((if v25 = true then (appO z7 it8.x0 >>= fun x_law_found => some x_law_found) else some z7) >>= (fun (z24 : (List Int)) => some z24))))) (enumL x_law_state.s.t.h) x_law_found >>= fun z26 => some z26)))
@[irreducible] def M.law_hindrance (x_law_voucher_here : PyData) (x_law_told : (T3 (List (T4 Int Int Int (Option Int))) Int Bool)) (x_law_pieces : (List Int)) (x_law_state : (HR [("prices" : Str), ("owners" : Str), ("marked" : Str)] (HC (List Int) (HC (List Int) (HC (List Bool) HU))))) : Option (Option Str) :=
  ((((lenDO x_law_voucher_here) >>= fun v3 => some (v3 - (1 : Int))) >>= fun v4 => (atDO x_law_voucher_here v4)) >>= fun x_law_marks => ((((atDO x_law_marks (3 : Int)) >>= fun v5 => (asBool v5)) >>= fun v6 => (if v6 = true then some ((!x_law_told.x2)) else some false)) >>= fun v12 => (if v12 = true then some (some ("member" : Str) : (Option Str)) else (if (decide (x_law_pieces = ([] : (List Int)))) = true then some (some ("nothing" : Str) : (Option Str)) else ((((lcM (fun (x_law_piece : Int) => (atO x_law_state.s.h x_law_piece)) x_law_pieces) >>= fun v7 => some (v7.sum)) >>= fun v9 => ((atDO x_law_marks (1 : Int)) >>= fun v8 => (asInt v8)) >>= fun v10 => some (decide (v9 < v10))) >>= fun v11 => (if v11 = true then some (some ("needs" : Str) : (Option Str)) else some (none : (Option Str))))))))
@[irreducible] def M.law_used (x_law_voucher_here : PyData) (x_law_pieces : (List Int)) (x_law_state : (HR [("prices" : Str), ("owners" : Str), ("marked" : Str)] (HC (List Int) (HC (List Int) (HC (List Bool) HU))))) : Option (HR [("prices" : Str), ("owners" : Str), ("marked" : Str)] (HC (List Int) (HC (List Int) (HC (List Bool) HU)))) :=
  (((lcM (fun (x_law_piece : Int) => (atO x_law_state.s.h x_law_piece)) x_law_pieces) >>= fun v2 => some (v2.sum)) >>= fun x_law_total => (let x_law_cut : Int := (0 : Int); (((atDO x_law_voucher_here (0 : Int)) >>= fun v3 => (eqDO v3 (PySem.W.Datum.toD (("off" : Str) : Str)))) >>= fun v36 => ((if v36 = true then ((((atDO x_law_voucher_here (1 : Int)) >>= fun v25 => (asInt v25)) >>= fun v26 => some (min v26 x_law_total)) >>= fun x_law_cut => some x_law_cut) else (((atDO x_law_voucher_here (0 : Int)) >>= fun v27 => (eqDO v27 (PySem.W.Datum.toD (("share" : Str) : Str)))) >>= fun v35 => ((if v35 = true then (((((atDO x_law_voucher_here (1 : Int)) >>= fun v32 => (asInt v32)) >>= fun v33 => (mulO x_law_total v33)) >>= fun v34 => some ((v34 / (1000 : Int)))) >>= fun x_law_cut => some x_law_cut) else some x_law_cut) >>= (fun (z28 : Int) => some z28)))) >>= (fun (z4 : Int) => (let x_law_upto : Int := (0 : Int); (let x_law_gone : Int := (0 : Int); (loopN (fun (z5 : (Int × Int × (List Int) × (List Int) × (List Bool))) (x_law_piece : Int) => (((atO z5.2.2.1 x_law_piece) >>= fun v7 => some (z5.1 + v7)) >>= fun x_law_upto => (let x_law_part : Int := (0 : Int); ((if (decide (x_law_total > (0 : Int))) = true then ((((mulO z4 x_law_upto) >>= fun v20 => (divO v20 x_law_total)) >>= fun v21 => some (v21 - z5.2.1)) >>= fun x_law_part => some x_law_part) else some x_law_part) >>= (fun (z8 : Int) => (let x_law_gone : Int := (z5.2.1 + z8); (((atO z5.2.2.1 x_law_piece) >>= fun v9 => some (v9 - z8)) >>= fun v17 => (setO z5.2.2.1 x_law_piece v17 >>= fun x_law_state_0 => ((if (decide (z8 > (0 : Int))) = true then (((((lenDO x_law_voucher_here) >>= fun v10 => some (v10 - (1 : Int))) >>= fun v11 => (atDO x_law_voucher_here v11)) >>= fun v12 => (atDO v12 (5 : Int))) >>= fun v13 => (asBool v13)) else some false) >>= fun v16 => ((if v16 = true then ((atO z5.2.2.2.1 x_law_piece) >>= fun v15 => (setO z5.2.2.2.2 v15 true >>= fun x_law_state_2 => some (x_law_state_0, z5.2.2.2.1, x_law_state_2))) else some (x_law_state_0, z5.2.2.2.1, z5.2.2.2.2)) >>= (fun (z14 : ((List Int) × (List Int) × (List Bool))) => some (x_law_upto, x_law_gone, z14.1, z14.2.1, z14.2.2)))))))))))) x_law_pieces (x_law_upto, x_law_gone, x_law_state.s.h, x_law_state.s.t.h, x_law_state.s.t.t.h) >>= fun z22 => some (HR.mk (ns := [("prices" : Str), ("owners" : Str), ("marked" : Str)]) (HC.mk z22.2.2.1 (HC.mk z22.2.2.2.1 (HC.mk z22.2.2.2.2 HU.mk))))))))))))
@[irreducible] def M.law_due (x_law_world : (HR [("parents" : Str), ("vouchers" : Str), ("rules" : Str), ("basket" : Str)] (HC (List (Option Int)) (HC (List PyData) (HC (List (T3 Str Int Int)) (HC (T3 (List (T4 Int Int Int (Option Int))) Int Bool) HU)))))) (x_law_order_here : (List Int)) : Option (Option (T2 Int Str)) :=
  ((M.law_begun x_law_world.s.t.t.t.h) >>= fun x_law_state => (loopC (fun (z3 : ((List Int) × (List Int) × (List Bool))) (it4 : (T2 Int Int)) => (((atO x_law_world.s.t.h it4.x1) >>= fun x_law_voucher_here => ((M.law_about x_law_voucher_here x_law_world.s.h x_law_world.s.t.t.t.h (HR.mk (ns := [("prices" : Str), ("owners" : Str), ("marked" : Str)]) (HC.mk z3.1 (HC.mk z3.2.1 (HC.mk z3.2.2 HU.mk))))) >>= fun x_law_pieces => ((M.law_hindrance x_law_voucher_here x_law_world.s.t.t.t.h x_law_pieces (HR.mk (ns := [("prices" : Str), ("owners" : Str), ("marked" : Str)]) (HC.mk z3.1 (HC.mk z3.2.1 (HC.mk z3.2.2 HU.mk))))) >>= fun x_law_word => (let z8 : (Option Str) := x_law_world.s.t.t.h.foldl (fun (z5 : (Option Str)) (x_law_rule : (T3 Str Int Int)) => (let z6 : (Option Str) := if ((decide (x_law_rule.x1 = it4.x1)) && (decide (x_law_rule.x2 ∈ (cutO x_law_order_here none (some it4.x0))))) = true then (let x_law_word : (Option Str) := (some x_law_rule.x0 : (Option Str)); x_law_word) else z5; (let z7 : (Option Str) := if ((decide (x_law_rule.x0 = ("never" : Str))) && ((decide (x_law_rule.x2 = it4.x1)) && (decide (x_law_rule.x1 ∈ (cutO x_law_order_here none (some it4.x0)))))) = true then (let x_law_word : (Option Str) := (some ("never" : Str) : (Option Str)); x_law_word) else z6; z7))) x_law_word; (let z9 : (Option Str) := if (decide (((((cutO x_law_order_here none (some it4.x0))).count it4.x1 : Nat) : Int) > (2 : Int))) = true then (let x_law_word : (Option Str) := (some ("held" : Str) : (Option Str)); x_law_word) else z8; (if z9.isSome = true then (((z9 >>= fun v15 => some (T2.mk it4.x0 v15)) >>= fun v16 => some ((some v16 : (Option (T2 Int Str))))) >>= fun v17 => some (Ctl.rt v17)) else ((M.law_used x_law_voucher_here x_law_pieces (HR.mk (ns := [("prices" : Str), ("owners" : Str), ("marked" : Str)]) (HC.mk z3.1 (HC.mk z3.2.1 (HC.mk z3.2.2 HU.mk))))) >>= fun x_law_state => some (Ctl.nx (x_law_state.s.h, x_law_state.s.t.h, x_law_state.s.t.t.h))))))))) : Option (Ctl ((List Int) × (List Int) × (List Bool)) ((List Int) × (List Int) × (List Bool)) (Option (T2 Int Str))))) (enumL x_law_order_here) (x_law_state.s.h, x_law_state.s.t.h, x_law_state.s.t.t.h) >>= Ctl.seqT fun (z20 : ((List Int) × (List Int) × (List Bool))) => some (none : (Option (T2 Int Str)))))
def M.law_alike : Nat → PyData → PyData → Option Bool
  | 0, _, _ => none
  | fu + 1, x_law_found, x_law_due_here =>
  (if (isiD_list x_law_due_here || isiD_tuple x_law_due_here) = true then (if ((!decide ((isiD_list x_law_found) = (isiD_list x_law_due_here))) || (!decide ((isiD_tuple x_law_found) = (isiD_tuple x_law_due_here)))) = true then some false else (((lenDO x_law_found) >>= fun v1 => (lenDO x_law_due_here) >>= fun v2 => some (decide (v1 = v2))) >>= fun v6 => (if v6 = true then (((zipDO x_law_found x_law_due_here) >>= fun v4 => (lcM (fun (it3 : (T2 PyData PyData)) => (M.law_alike fu it3.x0 it3.x1)) v4)) >>= fun v5 => some ((v5.all id))) else some false))) else (if (isND x_law_due_here) = true then some (isND x_law_found) else (if (isiD_bool x_law_due_here) = true then (if (isiD_bool x_law_found) = true then (eqDO x_law_found x_law_due_here) else some false) else (if (isiD_str x_law_due_here) = true then (if (isiD_str x_law_found) = true then (eqDO x_law_found x_law_due_here) else some false) else (if (isiD_int x_law_found) = true then (if (!(isiD_bool x_law_found)) = true then (eqDO x_law_found x_law_due_here) else some false) else some false)))))
@[irreducible] def M.law (x_law_script : (List Int)) : Option Bool :=
  ((M.law_cell x_law_script (0 : Int)) >>= fun x_law_cell_here => ((((M.law_parents x_law_cell_here) >>= fun v1 => some (HC.mk v1 (HC.mk ([] : (List PyData)) (HC.mk ([] : (List (T3 Str Int Int))) HU.mk)))) >>= fun v2 => some ((HR.mk (ns := [("parents" : Str), ("vouchers" : Str), ("rules" : Str)]) v2))) >>= fun x_law_world => (let x_law_kinds : Int := (x_law_world.s.h.length : Int); (((M.law_cell x_law_script (9 : Int)) >>= fun v3 => M.law_basket v3 x_law_kinds (decide ((x_law_cell_here % (2 : Int)) = (0 : Int)))) >>= fun v4 => ((((M.law_begun v4) >>= fun v7 => some (v7.s.h)) >>= fun v8 => some (v8.sum)) >>= fun x_law_total => ((((M.law_mixed x_law_cell_here (50 : Int)) >>= fun v11 => some ((v11 % (6 : Int)))) >>= fun v12 => (atO ((1 : Int) :: ((2 : Int) :: ((3 : Int) :: ((4 : Int) :: ((2 : Int) :: ((8 : Int) :: ([] : (List Int)))))))) v12)) >>= fun x_law_many => ((rng1O x_law_many) >>= fun v37 => (loopN (fun (z13 : ((List (Option Int)) × (List PyData) × (List (T3 Str Int Int)) × (T3 (List (T4 Int Int Int (Option Int))) Int Bool))) (x_law_k : Int) => ((((M.law_cell x_law_script ((1 : Int) + x_law_k)) >>= fun v14 => some (v14 + ((11 : Int) * x_law_k))) >>= fun v15 => M.law_voucher v15 x_law_kinds (decide ((x_law_cell_here % (2 : Int)) = (0 : Int))) x_law_total) >>= fun v16 => (appO z13.2.1 v16 >>= fun x_law_world_1 => some (z13.1, x_law_world_1, z13.2.2.1, z13.2.2.2)))) v37 (x_law_world.s.h, x_law_world.s.t.h, x_law_world.s.t.t.h, v4) >>= fun z17 => ((M.law_mixed x_law_cell_here (53 : Int)) >>= fun x_law_drawn => ((if (decide ((x_law_drawn % (3 : Int)) = (0 : Int))) = true then (((atO (("never" : Str) :: (("ahead" : Str) :: ([] : (List Str)))) ((x_law_drawn / (3 : Int)) % (2 : Int))) >>= fun v33 => (modO (x_law_drawn / (6 : Int)) x_law_many) >>= fun v34 => (modO (x_law_drawn / (60 : Int)) x_law_many) >>= fun v35 => some (T3.mk v33 v34 v35)) >>= fun v36 => (appO z17.2.2.1 v36 >>= fun x_law_world_2 => some (z17.1, z17.2.1, x_law_world_2, z17.2.2.2))) else some (z17.1, z17.2.1, z17.2.2.1, z17.2.2.2)) >>= (fun (z18 : ((List (Option Int)) × (List PyData) × (List (T3 Str Int Int)) × (T3 (List (T4 Int Int Int (Option Int))) Int Bool))) => ((if (decide ((x_law_cell_here % (3 : Int)) = (0 : Int))) = true then ((atO z18.2.1 (0 : Int)) >>= fun v32 => (setO z18.2.1 (x_law_many - (1 : Int)) v32 >>= fun x_law_world_1 => some (z18.1, x_law_world_1, z18.2.2.1, z18.2.2.2))) else some (z18.1, z18.2.1, z18.2.2.1, z18.2.2.2)) >>= (fun (z19 : ((List (Option Int)) × (List PyData) × (List (T3 Str Int Int)) × (T3 (List (T4 Int Int Int (Option Int))) Int Bool))) => ((lcM (fun (x_law_told : PyData) => (M.law_made x_law_told)) (((HR.mk (ns := [("parents" : Str), ("vouchers" : Str), ("rules" : Str), ("basket" : Str)]) (HC.mk z19.1 (HC.mk z19.2.1 (HC.mk z19.2.2.1 (HC.mk z19.2.2.2 HU.mk)))))).s.t.h)) >>= fun x_law_own => ((if (decide ((x_law_cell_here % (3 : Int)) = (0 : Int))) = true then ((atO x_law_own (0 : Int)) >>= fun v31 => (setO x_law_own (x_law_many - (1 : Int)) v31 >>= fun x_law_own => some x_law_own)) else some x_law_own) >>= (fun (z20 : (List VoucherD)) => (let x_law_till : TillD := (M.Till_init (((HR.mk (ns := [("parents" : Str), ("vouchers" : Str), ("rules" : Str), ("basket" : Str)]) (HC.mk z19.1 (HC.mk z19.2.1 (HC.mk z19.2.2.1 (HC.mk z19.2.2.2 HU.mk)))))).s.h) z20 (((HR.mk (ns := [("parents" : Str), ("vouchers" : Str), ("rules" : Str), ("basket" : Str)]) (HC.mk z19.1 (HC.mk z19.2.1 (HC.mk z19.2.2.1 (HC.mk z19.2.2.2 HU.mk)))))).s.t.t.h) (("again" : Str) : Str)); (let x_law_basket_here : BasketD := (M.law_basket_made (((HR.mk (ns := [("parents" : Str), ("vouchers" : Str), ("rules" : Str), ("basket" : Str)]) (HC.mk z19.1 (HC.mk z19.2.1 (HC.mk z19.2.2.1 (HC.mk z19.2.2.2 HU.mk)))))).s.t.t.t.h)); ((catO (x_law_cell_here :: ([] : (List Int))) (cutO x_law_script (some (10 : Int)) (some (30 : Int)))) >>= fun v30 => (loopC (fun (z21 : Unit) (x_law_one : Int) => (((M.law_order x_law_one x_law_many) >>= fun x_law_order_here => ((((((repO ((3 : Int) :: ([] : (List Int))) x_law_many) >>= fun v22 => M.fault x_law_till x_law_basket_here v22 x_law_order_here) >>= fun v23 => some ((PySem.W.Datum.toD (v23 : (Option (T2 Int Str)))))) >>= fun v25 => ((M.law_due (HR.mk (ns := [("parents" : Str), ("vouchers" : Str), ("rules" : Str), ("basket" : Str)]) (HC.mk z19.1 (HC.mk z19.2.1 (HC.mk z19.2.2.1 (HC.mk z19.2.2.2 HU.mk))))) x_law_order_here) >>= fun v24 => some ((PySem.W.Datum.toD (v24 : (Option (T2 Int Str)))))) >>= fun v26 => M.law_alike 24 v25 v26) >>= fun v27 => some ((!v27))) >>= fun v28 => (if v28 = true then some (Ctl.rt false) else some (Ctl.nx ())))) : Option (Ctl Unit Unit Bool))) v30 () >>= Ctl.seqT fun (z29 : Unit) => some true))))))))))))))))))))
set_option genInjectivity false in
set_option genSizeOfSpec false in
structure Tx (K : PySem.W.Frag) (mg : Str → Option Value) where
  C_Marks : Addr
  m_Marks : mg "Marks" = some (.ref C_Marks)
  cl_Marks : Cls K C_Marks
  C_Off : Addr
  m_Off : mg "Off" = some (.ref C_Off)
  cl_Off : Cls K C_Off
  C_Share : Addr
  m_Share : mg "Share" = some (.ref C_Share)
  cl_Share : Cls K C_Share
  C_Carriage : Addr
  m_Carriage : mg "Carriage" = some (.ref C_Carriage)
  cl_Carriage : Cls K C_Carriage
  C_Voucher : Addr
  m_Voucher : mg "Voucher" = some (.ref C_Voucher)
  cl_Voucher : Cls K C_Voucher
  C_Till : Addr
  m_Till : mg "Till" = some (.ref C_Till)
  cl_Till : Cls K C_Till
  C_Line : Addr
  m_Line : mg "Line" = some (.ref C_Line)
  cl_Line : Cls K C_Line
  C_Basket : Addr
  m_Basket : mg "Basket" = some (.ref C_Basket)
  cl_Basket : Cls K C_Basket
  C_Standing : Addr
  m_Standing : mg "Standing" = some (.ref C_Standing)
  cl_Standing : Cls K C_Standing
  n_Basket_carriage : NoAttr K C_Basket "carriage"
  n_Basket_lines : NoAttr K C_Basket "lines"
  n_Basket_member : NoAttr K C_Basket "member"
  n_Carriage_marks : NoAttr K C_Carriage "marks"
  n_Line_kind : NoAttr K C_Line "kind"
  n_Line_many : NoAttr K C_Line "many"
  n_Line_price : NoAttr K C_Line "price"
  n_Line_special : NoAttr K C_Line "special"
  n_Marks_kind : NoAttr K C_Marks "kind"
  n_Marks_lone : NoAttr K C_Marks "lone"
  n_Marks_member : NoAttr K C_Marks "member"
  n_Marks_most : NoAttr K C_Marks "most"
  n_Marks_needs : NoAttr K C_Marks "needs"
  n_Marks_once : NoAttr K C_Marks "once"
  n_Off_amount : NoAttr K C_Off "amount"
  n_Off_marks : NoAttr K C_Off "marks"
  n_Share_by_line : NoAttr K C_Share "by_line"
  n_Share_marks : NoAttr K C_Share "marks"
  n_Share_share : NoAttr K C_Share "share"
  n_Standing_carriage : NoAttr K C_Standing "carriage"
  n_Standing_marked : NoAttr K C_Standing "marked"
  n_Standing_owners : NoAttr K C_Standing "owners"
  n_Standing_prices : NoAttr K C_Standing "prices"
  n_Till_back : NoAttr K C_Till "back"
  n_Till_parents : NoAttr K C_Till "parents"
  n_Till_rules : NoAttr K C_Till "rules"
  n_Till_vouchers : NoAttr K C_Till "vouchers"
  f_law_cell : Addr
  d_law_cell : FuncData
  F_law_cell : FunX K "_law_cell" "_law_cell" s_law_cell f_law_cell d_law_cell
  m_law_cell : mg "_law_cell" = some (.ref f_law_cell)
  k_law_cell : PySem.W.keepIn K (.ref f_law_cell) = true
  f_law_mixed : Addr
  d_law_mixed : FuncData
  F_law_mixed : FunX K "_law_mixed" "_law_mixed" s_law_mixed f_law_mixed d_law_mixed
  m_law_mixed : mg "_law_mixed" = some (.ref f_law_mixed)
  k_law_mixed : PySem.W.keepIn K (.ref f_law_mixed) = true
  f_law_parents : Addr
  d_law_parents : FuncData
  F_law_parents : FunX K "_law_parents" "_law_parents" s_law_parents f_law_parents d_law_parents
  m_law_parents : mg "_law_parents" = some (.ref f_law_parents)
  k_law_parents : PySem.W.keepIn K (.ref f_law_parents) = true
  f_law_coins : Addr
  d_law_coins : FuncData
  F_law_coins : FunX K "_law_coins" "_law_coins" s_law_coins f_law_coins d_law_coins
  m_law_coins : mg "_law_coins" = some (.ref f_law_coins)
  k_law_coins : PySem.W.keepIn K (.ref f_law_coins) = true
  f_law_basket : Addr
  d_law_basket : FuncData
  F_law_basket : FunX K "_law_basket" "_law_basket" s_law_basket f_law_basket d_law_basket
  m_law_basket : mg "_law_basket" = some (.ref f_law_basket)
  k_law_basket : PySem.W.keepIn K (.ref f_law_basket) = true
  f_law_begun : Addr
  d_law_begun : FuncData
  F_law_begun : FunX K "_law_begun" "_law_begun" s_law_begun f_law_begun d_law_begun
  m_law_begun : mg "_law_begun" = some (.ref f_law_begun)
  k_law_begun : PySem.W.keepIn K (.ref f_law_begun) = true
  f_law_voucher : Addr
  d_law_voucher : FuncData
  F_law_voucher : FunX K "_law_voucher" "_law_voucher" s_law_voucher f_law_voucher d_law_voucher
  m_law_voucher : mg "_law_voucher" = some (.ref f_law_voucher)
  k_law_voucher : PySem.W.keepIn K (.ref f_law_voucher) = true
  f_Marks_init : Addr
  d_Marks_init : FuncData
  F_Marks_init : FunX K "__init__" "Marks.__init__" s_Marks_init f_Marks_init d_Marks_init
  k_Marks_init : PySem.W.keepIn K (.ref f_Marks_init) = true
  f_Voucher_init : Addr
  d_Voucher_init : FuncData
  F_Voucher_init : FunX K "__init__" "Voucher.__init__" s_Voucher_init f_Voucher_init d_Voucher_init
  k_Voucher_init : PySem.W.keepIn K (.ref f_Voucher_init) = true
  f_Off_init : Addr
  d_Off_init : FuncData
  F_Off_init : FunX K "__init__" "Off.__init__" s_Off_init f_Off_init d_Off_init
  k_Off_init : PySem.W.keepIn K (.ref f_Off_init) = true
  f_Share_init : Addr
  d_Share_init : FuncData
  F_Share_init : FunX K "__init__" "Share.__init__" s_Share_init f_Share_init d_Share_init
  k_Share_init : PySem.W.keepIn K (.ref f_Share_init) = true
  f_law_made : Addr
  d_law_made : FuncData
  F_law_made : FunX K "_law_made" "_law_made" s_law_made f_law_made d_law_made
  m_law_made : mg "_law_made" = some (.ref f_law_made)
  k_law_made : PySem.W.keepIn K (.ref f_law_made) = true
  f_Till_init : Addr
  d_Till_init : FuncData
  F_Till_init : FunX K "__init__" "Till.__init__" s_Till_init f_Till_init d_Till_init
  k_Till_init : PySem.W.keepIn K (.ref f_Till_init) = true
  f_Line_init : Addr
  d_Line_init : FuncData
  F_Line_init : FunX K "__init__" "Line.__init__" s_Line_init f_Line_init d_Line_init
  k_Line_init : PySem.W.keepIn K (.ref f_Line_init) = true
  f_Basket_init : Addr
  d_Basket_init : FuncData
  F_Basket_init : FunX K "__init__" "Basket.__init__" s_Basket_init f_Basket_init d_Basket_init
  k_Basket_init : PySem.W.keepIn K (.ref f_Basket_init) = true
  f_law_basket_made : Addr
  d_law_basket_made : FuncData
  F_law_basket_made : FunX K "_law_basket_made" "_law_basket_made" s_law_basket_made f_law_basket_made d_law_basket_made
  m_law_basket_made : mg "_law_basket_made" = some (.ref f_law_basket_made)
  k_law_basket_made : PySem.W.keepIn K (.ref f_law_basket_made) = true
  f_law_order : Addr
  d_law_order : FuncData
  F_law_order : FunX K "_law_order" "_law_order" s_law_order f_law_order d_law_order
  m_law_order : mg "_law_order" = some (.ref f_law_order)
  k_law_order : PySem.W.keepIn K (.ref f_law_order) = true
  f_piece_price : Addr
  d_piece_price : FuncData
  F_piece_price : FunX K "piece_price" "piece_price" s_piece_price f_piece_price d_piece_price
  m_piece_price : mg "piece_price" = some (.ref f_piece_price)
  k_piece_price : PySem.W.keepIn K (.ref f_piece_price) = true
  f_Standing_init : Addr
  d_Standing_init : FuncData
  F_Standing_init : FunX K "__init__" "Standing.__init__" s_Standing_init f_Standing_init d_Standing_init
  k_Standing_init : PySem.W.keepIn K (.ref f_Standing_init) = true
  f_never_beside : Addr
  d_never_beside : FuncData
  F_never_beside : FunX K "never_beside" "never_beside" s_never_beside f_never_beside d_never_beside
  m_never_beside : mg "never_beside" = some (.ref f_never_beside)
  k_never_beside : PySem.W.keepIn K (.ref f_never_beside) = true
  f_comes_late : Addr
  d_comes_late : FuncData
  F_comes_late : FunX K "comes_late" "comes_late" s_comes_late f_comes_late d_comes_late
  m_comes_late : mg "comes_late" = some (.ref f_comes_late)
  k_comes_late : PySem.W.keepIn K (.ref f_comes_late) = true
  f_under : Addr
  d_under : FuncData
  F_under : FunX K "under" "under" s_under f_under d_under
  m_under : mg "under" = some (.ref f_under)
  k_under : PySem.W.keepIn K (.ref f_under) = true
  f_about : Addr
  d_about : FuncData
  F_about : FunX K "about" "about" s_about f_about d_about
  m_about : mg "about" = some (.ref f_about)
  k_about : PySem.W.keepIn K (.ref f_about) = true
  f_hindrance : Addr
  d_hindrance : FuncData
  F_hindrance : FunX K "hindrance" "hindrance" s_hindrance f_hindrance d_hindrance
  m_hindrance : mg "hindrance" = some (.ref f_hindrance)
  k_hindrance : PySem.W.keepIn K (.ref f_hindrance) = true
  f_word_of : Addr
  d_word_of : FuncData
  F_word_of : FunX K "word_of" "word_of" s_word_of f_word_of d_word_of
  m_word_of : mg "word_of" = some (.ref f_word_of)
  k_word_of : PySem.W.keepIn K (.ref f_word_of) = true
  f_dealt : Addr
  d_dealt : FuncData
  F_dealt : FunX K "dealt" "dealt" s_dealt f_dealt d_dealt
  m_dealt : mg "dealt" = some (.ref f_dealt)
  k_dealt : PySem.W.keepIn K (.ref f_dealt) = true
  f_Off_wanted : Addr
  d_Off_wanted : FuncData
  F_Off_wanted : FunX K "wanted" "Off.wanted" s_Off_wanted f_Off_wanted d_Off_wanted
  k_Off_wanted : PySem.W.keepIn K (.ref f_Off_wanted) = true
  f_Share_wanted : Addr
  d_Share_wanted : FuncData
  F_Share_wanted : FunX K "wanted" "Share.wanted" s_Share_wanted f_Share_wanted d_Share_wanted
  k_Share_wanted : PySem.W.keepIn K (.ref f_Share_wanted) = true
  f_Voucher_wanted : Addr
  d_Voucher_wanted : FuncData
  F_Voucher_wanted : FunX K "wanted" "Voucher.wanted" s_Voucher_wanted f_Voucher_wanted d_Voucher_wanted
  k_Voucher_wanted : PySem.W.keepIn K (.ref f_Voucher_wanted) = true
  f_Voucher_wanted_carriage : Addr
  d_Voucher_wanted_carriage : FuncData
  F_Voucher_wanted_carriage : FunX K "wanted_carriage" "Voucher.wanted_carriage" s_Voucher_wanted_carriage f_Voucher_wanted_carriage d_Voucher_wanted_carriage
  k_Voucher_wanted_carriage : PySem.W.keepIn K (.ref f_Voucher_wanted_carriage) = true
  f_Carriage_wanted_carriage : Addr
  d_Carriage_wanted_carriage : FuncData
  F_Carriage_wanted_carriage : FunX K "wanted_carriage" "Carriage.wanted_carriage" s_Carriage_wanted_carriage f_Carriage_wanted_carriage d_Carriage_wanted_carriage
  k_Carriage_wanted_carriage : PySem.W.keepIn K (.ref f_Carriage_wanted_carriage) = true
  f_cuts : Addr
  d_cuts : FuncData
  F_cuts : FunX K "cuts" "cuts" s_cuts f_cuts d_cuts
  m_cuts : mg "cuts" = some (.ref f_cuts)
  k_cuts : PySem.W.keepIn K (.ref f_cuts) = true
  f_after : Addr
  d_after : FuncData
  F_after : FunX K "after" "after" s_after f_after d_after
  m_after : mg "after" = some (.ref f_after)
  k_after : PySem.W.keepIn K (.ref f_after) = true
  f_lacking : Addr
  d_lacking : FuncData
  F_lacking : FunX K "lacking" "lacking" s_lacking f_lacking d_lacking
  m_lacking : mg "lacking" = some (.ref f_lacking)
  k_lacking : PySem.W.keepIn K (.ref f_lacking) = true
  f_fault : Addr
  d_fault : FuncData
  F_fault : FunX K "fault" "fault" s_fault f_fault d_fault
  m_fault : mg "fault" = some (.ref f_fault)
  k_fault : PySem.W.keepIn K (.ref f_fault) = true
  f_law_under : Addr
  d_law_under : FuncData
  F_law_under : FunX K "_law_under" "_law_under" s_law_under f_law_under d_law_under
  m_law_under : mg "_law_under" = some (.ref f_law_under)
  k_law_under : PySem.W.keepIn K (.ref f_law_under) = true
  f_law_about : Addr
  d_law_about : FuncData
  F_law_about : FunX K "_law_about" "_law_about" s_law_about f_law_about d_law_about
  m_law_about : mg "_law_about" = some (.ref f_law_about)
  k_law_about : PySem.W.keepIn K (.ref f_law_about) = true
  f_law_hindrance : Addr
  d_law_hindrance : FuncData
  F_law_hindrance : FunX K "_law_hindrance" "_law_hindrance" s_law_hindrance f_law_hindrance d_law_hindrance
  m_law_hindrance : mg "_law_hindrance" = some (.ref f_law_hindrance)
  k_law_hindrance : PySem.W.keepIn K (.ref f_law_hindrance) = true
  f_law_used : Addr
  d_law_used : FuncData
  F_law_used : FunX K "_law_used" "_law_used" s_law_used f_law_used d_law_used
  m_law_used : mg "_law_used" = some (.ref f_law_used)
  k_law_used : PySem.W.keepIn K (.ref f_law_used) = true
  f_law_due : Addr
  d_law_due : FuncData
  F_law_due : FunX K "_law_due" "_law_due" s_law_due f_law_due d_law_due
  m_law_due : mg "_law_due" = some (.ref f_law_due)
  k_law_due : PySem.W.keepIn K (.ref f_law_due) = true
  f_law_alike : Addr
  d_law_alike : FuncData
  F_law_alike : FunX K "_law_alike" "_law_alike" s_law_alike f_law_alike d_law_alike
  m_law_alike : mg "_law_alike" = some (.ref f_law_alike)
  k_law_alike : PySem.W.keepIn K (.ref f_law_alike) = true
  f_law : Addr
  d_law : FuncData
  F_law : FunX K "law" "law" s_law f_law d_law
  m_law : mg "law" = some (.ref f_law)
  k_law : PySem.W.keepIn K (.ref f_law) = true
  b_Basket_init_4 : Binds K d_Basket_init ["self", "lines", "carriage", "member"] []
  b_Carriage_wanted_carriage_2 : Binds K d_Carriage_wanted_carriage ["self", "carriage"] []
  b_Line_init_5 : Binds K d_Line_init ["self", "kind", "price", "many", "special"] []
  ds_Marks_init_1 : List Value
  b_Marks_init_1 : Binds K d_Marks_init ["self", "kind", "needs", "most", "member", "once", "lone"] ds_Marks_init_1
  v_Marks_init_1 : Vals [.non, .int 0, .non, .bl false, .bl false, .bl false] ds_Marks_init_1
  b_Marks_init_7 : Binds K d_Marks_init ["self", "kind", "needs", "most", "member", "once", "lone"] []
  b_Off_init_3 : Binds K d_Off_init ["self", "amount", "marks"] []
  b_Off_wanted_3 : Binds K d_Off_wanted ["self", "prices", "owners"] []
  b_Share_init_4 : Binds K d_Share_init ["self", "share", "by_line", "marks"] []
  b_Share_wanted_3 : Binds K d_Share_wanted ["self", "prices", "owners"] []
  b_Standing_init_2 : Binds K d_Standing_init ["self", "basket"] []
  ds_Till_init_4 : List Value
  b_Till_init_4 : Binds K d_Till_init ["self", "parents", "vouchers", "rules", "back"] ds_Till_init_4
  v_Till_init_4 : Vals [.str "again"] ds_Till_init_4
  b_Voucher_init_2 : Binds K d_Voucher_init ["self", "marks"] []
  b_Voucher_wanted_3 : Binds K d_Voucher_wanted ["self", "prices", "owners"] []
  b_Voucher_wanted_carriage_2 : Binds K d_Voucher_wanted_carriage ["self", "carriage"] []
  b_about_4 : Binds K d_about ["voucher", "parents", "basket", "standing"] []
  b_after_4 : Binds K d_after ["voucher", "parents", "basket", "standing"] []
  b_comes_late_3 : Binds K d_comes_late ["till", "ahead", "voucher"] []
  b_cuts_4 : Binds K d_cuts ["voucher", "parents", "basket", "standing"] []
  b_dealt_2 : Binds K d_dealt ["cut", "weights"] []
  b_fault_4 : Binds K d_fault ["till", "basket", "hand", "order"] []
  b_hindrance_4 : Binds K d_hindrance ["voucher", "parents", "basket", "standing"] []
  b_lacking_2 : Binds K d_lacking ["till", "order"] []
  b_law_about_4 : Binds K d_law_about ["_law_voucher_here", "_law_parents_here", "_law_told", "_law_state"] []
  b_law_alike_2 : Binds K d_law_alike ["_law_found", "_law_due_here"] []
  b_law_basket_3 : Binds K d_law_basket ["_law_cell_here", "_law_kinds", "_law_great"] []
  b_law_basket_made_1 : Binds K d_law_basket_made ["_law_told"] []
  b_law_begun_1 : Binds K d_law_begun ["_law_told"] []
  b_law_cell_2 : Binds K d_law_cell ["_law_script", "_law_k"] []
  b_law_coins_2 : Binds K d_law_coins ["_law_drawn", "_law_great"] []
  b_law_due_2 : Binds K d_law_due ["_law_world", "_law_order_here"] []
  b_law_hindrance_4 : Binds K d_law_hindrance ["_law_voucher_here", "_law_told", "_law_pieces", "_law_state"] []
  b_law_made_1 : Binds K d_law_made ["_law_told"] []
  b_law_mixed_2 : Binds K d_law_mixed ["_law_cell_here", "_law_k"] []
  b_law_order_2 : Binds K d_law_order ["_law_cell_here", "_law_many"] []
  b_law_parents_1 : Binds K d_law_parents ["_law_cell_here"] []
  b_law_under_3 : Binds K d_law_under ["_law_parents_here", "_law_one", "_law_other"] []
  b_law_used_3 : Binds K d_law_used ["_law_voucher_here", "_law_pieces", "_law_state"] []
  b_law_voucher_4 : Binds K d_law_voucher ["_law_cell_here", "_law_kinds", "_law_great", "_law_total"] []
  b_never_beside_3 : Binds K d_never_beside ["till", "ahead", "voucher"] []
  b_piece_price_2 : Binds K d_piece_price ["line", "member"] []
  b_under_3 : Binds K d_under ["parents", "one", "other"] []
  b_word_of_6 : Binds K d_word_of ["till", "basket", "hand", "ahead", "voucher", "standing"] []
  mk_Basket : Mk K C_Basket f_Basket_init
  mk_Carriage : Mk K C_Carriage f_Voucher_init
  mk_Line : Mk K C_Line f_Line_init
  mk_Marks : Mk K C_Marks f_Marks_init
  mk_Off : Mk K C_Off f_Off_init
  mk_Share : Mk K C_Share f_Share_init
  mk_Standing : Mk K C_Standing f_Standing_init
  mk_Till : Mk K C_Till f_Till_init
  me_Carriage_Voucher_wanted : Meth K C_Carriage "wanted" f_Voucher_wanted
  me_Carriage_Carriage_wanted_carriage : Meth K C_Carriage "wanted_carriage" f_Carriage_wanted_carriage
  me_Off_Off_wanted : Meth K C_Off "wanted" f_Off_wanted
  me_Off_Voucher_wanted_carriage : Meth K C_Off "wanted_carriage" f_Voucher_wanted_carriage
  me_Share_Share_wanted : Meth K C_Share "wanted" f_Share_wanted
  me_Share_Voucher_wanted_carriage : Meth K C_Share "wanted_carriage" f_Voucher_wanted_carriage
  cr_Voucher : CRead K C_Voucher (.type "type")
  cv_Voucher_Voucher_init : CVal K C_Voucher (.type "type") "__init__" (.ref f_Voucher_init) (.ref f_Voucher_init)
  g_all : mg "all" = none
  g_bool : mg "bool" = none
  g_enumerate : mg "enumerate" = none
  g_int : mg "int" = none
  g_isinstance : mg "isinstance" = none
  g_len : mg "len" = none
  g_list : mg "list" = none
  g_min : mg "min" = none
  g_range : mg "range" = none
  g_set : mg "set" = none
  g_sorted : mg "sorted" = none
  g_str : mg "str" = none
  g_sum : mg "sum" = none
  g_tuple : mg "tuple" = none
  g_zip : mg "zip" = none
section
variable {P : Program} {w : World} {K : PySem.W.Frag} {mg : Str → Option Value} {base : Heap}
theorem ok_law_cell (T : Tx K mg) : FnOk P w K mg base CX0 1 T.f_law_cell T.d_law_cell ["_law_script", "_law_k"] (spT (Gb.mk K mg) (fun p : (List Int) × Int × Unit => [.bw (rl (Gb.mk K mg) p.1), .im (Py.r (Gb.mk K mg) p.2.1)]) (fun p => M.law_cell p.1 p.2.1) (fun r => .im (Py.r (Gb.mk K mg) (r : Int)))) := by
  refine fnx_mk T.F_law_cell sc_law_cell (fun _ => rfl) (fun _ => rfl) (by decide) (fun cdv A outer s H E I p hr => ?_)
  obtain ⟨x_law_script, x_law_k, ⟨⟩⟩ := p
  refine MB.eq (MB.p1 (mb_ift (mt_cm (MC.p1 (MC.p1 (mc_lt (me_var 1) (ME.p1 (me_len T.g_len (me_bor 0))))))) (mb_retT (ME.p1 (ME.p1 (me_ix (me_bor 0) (me_var 1))))) (mb_retT me_int) hk_t)) ?_
  delta M.law_cell
  rfl
theorem ok_law_mixed (T : Tx K mg) : FnOk P w K mg base CX0 1 T.f_law_mixed T.d_law_mixed ["_law_cell_here", "_law_k"] (spT (Gb.mk K mg) (fun p : Int × Int × Unit => [.im (Py.r (Gb.mk K mg) p.1), .im (Py.r (Gb.mk K mg) p.2.1)]) (fun p => M.law_mixed p.1 p.2.1) (fun r => .im (Py.r (Gb.mk K mg) (r : Int)))) := by
  refine fnx_mk T.F_law_mixed sc_law_mixed (fun _ => rfl) (fun _ => rfl) (by decide) (fun cdv A outer s H E I p hr => ?_)
  obtain ⟨x_law_cell_here, x_law_k, ⟨⟩⟩ := p
  refine MB.eq (MB.p1 (mb_set 2 sc_law_mixed.nd (ME.p1 (me_modC (n := 2147483647) (by decide) (ME.p1 (me_mulC (n := 48271) (by decide) (ME.p1 (ME.p1 (me_add (ME.p1 (ME.p1 (me_add (ME.p1 (me_modC (n := 1000000007) (by decide) (me_var 0) me_int)) (ME.p1 (me_mulD (n := 7) (by decide) me_int (me_var 1)))))) me_int))) me_int)) me_int)) (fun x_law_once => mb_retT (me_modC (n := 998244353) (by decide) (ME.p1 (ME.p1 (me_mul (me_var 2) (ME.p1 (ME.p1 (me_add (ME.p1 (ME.p1 (me_add (ME.p1 (me_modC (n := 1009) (by decide) (me_var 2) me_int)) (me_var 1)))) me_int)))))) me_int)))) ?_
  delta M.law_mixed
  rfl
theorem ok_law_parents (T : Tx K mg) : FnOk P w K mg base CX0 2 T.f_law_parents T.d_law_parents ["_law_cell_here"] (spT (Gb.mk K mg) (fun p : Int × Unit => [.im (Py.r (Gb.mk K mg) p.1)]) (fun p => M.law_parents p.1) (fun r => .fr (rl (Gb.mk K mg) (r : (List (Option Int)))))) := by
  refine fnx_mk T.F_law_parents sc_law_parents (fun _ => rfl) (fun _ => rfl) (by decide) (fun cdv A outer s H E I p hr => ?_)
  obtain ⟨x_law_cell_here, ⟨⟩⟩ := p
  refine MB.eq (MB.p1 (mb_set 1 sc_law_parents.nd (me_lst (α := (Option Int)) (ML.p1 (ML.p1 (ml_cons me_non ml_nil)))) (fun x_law_parents_here => mb_for (S' := (fun z4 : (List (Option Int)) => [some (.im (Py.r (Gb.mk K mg) (x_law_cell_here : Int))), some (.fr (rl (Gb.mk K mg) (z4 : (List (Option Int))))), none, none])) (s0 := x_law_parents_here) PassesOwn.never (MI.p1 (mi_rng2 T.g_range me_int (ME.p1 (me_add me_int (me_modC (n := 6) (by decide) (me_call (ok_law_mixed T) hr (by decide) T.m_law_mixed T.k_law_mixed T.b_law_mixed_2 .nil (MA.p1 (ma_cons (args := fun p : Int × Unit => [.im (Py.r (Gb.mk K mg) p.1)]) (me_var 0) co_im (fun _ => (MA.p1 (ma_cons (args := fun p : Unit => []) me_int co_im (fun _ => ma_nl))))))) me_int))))) (mg_name 2 sc_law_parents.nd) (.keep (.keep (.keep (.keep .nil)))) (fun _ (z4 : (List (Option Int))) (x_law_k : Int) => mb_set 3 sc_law_parents.nd (me_call (ok_law_mixed T) hr (by decide) T.m_law_mixed T.k_law_mixed T.b_law_mixed_2 .nil (MA.p1 (ma_cons (args := fun p : Int × Unit => [.im (Py.r (Gb.mk K mg) p.1)]) (me_var 0) co_im (fun _ => (MA.p1 (ma_cons (args := fun p : Unit => []) (ME.p1 (ME.p1 (me_add me_int (me_var 2)))) co_im (fun _ => ma_nl))))))) (fun x_law_drawn => mb_app 1 (ME.p2 (me_ix (me_lst (α := (Option Int)) (ML.p1 (ml_cons me_non (ml_cons (me_some (α := Int) (ME.p1 (ME.p1 (me_mod (ME.p1 (me_divC (n := 3) (by decide) (me_var 3) me_int)) (me_var 2))))) (ML.p2 (ml_cons (me_some (α := Int) (ME.p1 (ME.p1 (me_mod (ME.p1 (me_divC (n := 3) (by decide) (me_var 3) me_int)) (me_var 2))))) ml_nil)))))) (ME.p1 (me_modC (n := 3) (by decide) (me_var 3) me_int)))) (fun x_law_parents_here => mb_nil (b := x_law_parents_here) kx_n (.keep (.keep (.drop (.drop .nil))))))) (fun (z13 : (List (Option Int))) => mb_retO 1 kr_t)))) ?_
  delta M.law_parents
  rfl
theorem ok_law_coins (T : Tx K mg) : FnOk P w K mg base CX0 1 T.f_law_coins T.d_law_coins ["_law_drawn", "_law_great"] (spT (Gb.mk K mg) (fun p : Int × Bool × Unit => [.im (Py.r (Gb.mk K mg) p.1), .im (Py.r (Gb.mk K mg) p.2.1)]) (fun p => M.law_coins p.1 p.2.1) (fun r => .im (Py.r (Gb.mk K mg) (r : Int)))) := by
  refine fnx_mk T.F_law_coins sc_law_coins (fun _ => rfl) (fun _ => rfl) (by decide) (fun cdv A outer s H E I p hr => ?_)
  obtain ⟨x_law_drawn, x_law_great, ⟨⟩⟩ := p
  refine MB.eq (MB.p1 (mb_ift (mt_val (me_var 1)) (mb_retT (ME.p1 (ME.p1 (me_ix (me_lst (α := Int) (ML.p1 (ML.p1 (ml_cons (ME.p1 (me_modC (n := 1000000000001) (by decide) (ME.p1 (me_mulC (n := 1000003) (by decide) (me_var 0) me_int)) me_int)) (ML.p1 (ML.p1 (ml_cons (ME.p1 (ME.p1 (me_sub (me_powC (n := 10) (k := 12) (v := 1000000000000) (by decide) (by decide) me_int me_int) (ME.p1 (me_modC (n := 3) (by decide) (ME.p1 (me_divC (n := 4) (by decide) (me_var 0) me_int)) me_int))))) (ML.p1 (ML.p1 (ml_cons (ME.p1 (me_modC (n := 9) (by decide) (ME.p1 (me_divC (n := 4) (by decide) (me_var 0) me_int)) me_int)) (ML.p1 (ML.p1 (ml_cons me_int ml_nil))))))))))))) (ME.p1 (me_modC (n := 4) (by decide) (me_var 0) me_int)))))) (mb_retT (ME.p1 (ME.p1 (me_ix (me_lst (α := Int) (ML.p1 (ML.p1 (ml_cons (ME.p1 (me_modC (n := 7) (by decide) (ME.p1 (me_divC (n := 4) (by decide) (me_var 0) me_int)) me_int)) (ML.p1 (ML.p1 (ml_cons (ME.p1 (me_modC (n := 40) (by decide) (ME.p1 (me_divC (n := 4) (by decide) (me_var 0) me_int)) me_int)) (ML.p1 (ML.p1 (ml_cons (ME.p1 (me_modC (n := 300) (by decide) (ME.p1 (me_divC (n := 4) (by decide) (me_var 0) me_int)) me_int)) (ML.p1 (ML.p1 (ml_cons me_int ml_nil))))))))))))) (ME.p1 (me_modC (n := 4) (by decide) (me_var 0) me_int)))))) hk_t)) ?_
  delta M.law_coins
  rfl
theorem ok_law_basket (T : Tx K mg) : FnOk P w K mg base CX0 2 T.f_law_basket T.d_law_basket ["_law_cell_here", "_law_kinds", "_law_great"] (spT (Gb.mk K mg) (fun p : Int × Int × Bool × Unit => [.im (Py.r (Gb.mk K mg) p.1), .im (Py.r (Gb.mk K mg) p.2.1), .im (Py.r (Gb.mk K mg) p.2.2.1)]) (fun p => M.law_basket p.1 p.2.1 p.2.2.1) (fun r => .im (Py.r (Gb.mk K mg) (r : (T3 (List (T4 Int Int Int (Option Int))) Int Bool))))) := by
  refine fnx_mk T.F_law_basket sc_law_basket (fun _ => rfl) (fun _ => rfl) (by decide) (fun cdv A outer s H E I p hr => ?_)
  obtain ⟨x_law_cell_here, x_law_kinds, x_law_great, ⟨⟩⟩ := p
  refine MB.eq (mb_set 3 sc_law_basket.nd (me_call (ok_law_mixed T) hr (by decide) T.m_law_mixed T.k_law_mixed T.b_law_mixed_2 .nil (MA.p1 (ma_cons (args := fun p : Int × Unit => [.im (Py.r (Gb.mk K mg) p.1)]) (me_var 0) co_im (fun _ => (MA.p1 (ma_cons (args := fun p : Unit => []) me_int co_im (fun _ => ma_nl))))))) (fun x_law_head => MB.p1 (mb_set 4 sc_law_basket.nd (me_lst (α := (T4 Int Int Int (Option Int))) ml_nil) (fun x_law_lines => mb_for (S' := (fun z2 : (List (T4 Int Int Int (Option Int))) => [some (.im (Py.r (Gb.mk K mg) (x_law_cell_here : Int))), some (.im (Py.r (Gb.mk K mg) (x_law_kinds : Int))), some (.im (Py.r (Gb.mk K mg) (x_law_great : Bool))), some (.im (Py.r (Gb.mk K mg) (x_law_head : Int))), some (.fr (rl (Gb.mk K mg) (z2 : (List (T4 Int Int Int (Option Int)))))), none, none, none, none, none])) (s0 := x_law_lines) PassesOwn.never (mi_rng1 T.g_range (ME.p1 (ME.p1 (me_ix (me_lst (α := Int) (ML.p1 (ML.p1 (ml_cons me_int (ML.p1 (ML.p1 (ml_cons me_int (ML.p1 (ML.p1 (ml_cons me_int (ML.p1 (ML.p1 (ml_cons me_int (ML.p1 (ML.p1 (ml_cons me_int ml_nil)))))))))))))))) (ME.p1 (me_modC (n := 5) (by decide) (me_var 3) me_int)))))) (mg_name 5 sc_law_basket.nd) (.keep (.keep (.keep (.keep (.keep (.keep (.keep (.keep (.keep (.keep .nil)))))))))) (fun _ (z2 : (List (T4 Int Int Int (Option Int)))) (x_law_k : Int) => mb_set 6 sc_law_basket.nd (me_call (ok_law_mixed T) hr (by decide) T.m_law_mixed T.k_law_mixed T.b_law_mixed_2 .nil (MA.p1 (ma_cons (args := fun p : Int × Unit => [.im (Py.r (Gb.mk K mg) p.1)]) (me_var 0) co_im (fun _ => (MA.p1 (ma_cons (args := fun p : Unit => []) (ME.p1 (ME.p1 (me_add me_int (me_var 5)))) co_im (fun _ => ma_nl))))))) (fun x_law_drawn => mb_set 7 sc_law_basket.nd (ME.p1 (ME.p1 (me_ix (me_lst (α := Int) (ML.p1 (ML.p1 (ml_cons (ME.p1 (me_modC (n := 5) (by decide) (ME.p1 (me_divC (n := 8) (by decide) (me_var 6) me_int)) me_int)) (ML.p1 (ML.p1 (ml_cons me_int ml_nil))))))) (ME.p1 (me_intB T.g_int (me_cm (MC.p1 (MC.p1 (mc_eq (α := Int) hr.units (Nat.le_of_ble_eq_true rfl) (ME.p1 (me_modC (n := 8) (by decide) (me_var 6) me_int)) me_int))))))))) (fun x_law_many => mb_set 8 sc_law_basket.nd (ME.p2 (me_ix (me_lst (α := (Option Int)) (ML.p1 (ml_cons me_non (ML.p1 (ml_cons me_non (ML.p2 (ml_cons (me_some (α := Int) (me_call (ok_law_coins T) hr (by decide) T.m_law_coins T.k_law_coins T.b_law_coins_2 .nil (MA.p1 (ma_cons (args := fun p : Bool × Unit => [.im (Py.r (Gb.mk K mg) p.1)]) (ME.p1 (me_divC (n := 1000) (by decide) (me_var 6) me_int)) co_im (fun _ => (MA.p1 (ma_cons (args := fun p : Unit => []) (me_var 2) co_im (fun _ => ma_nl)))))))) ml_nil))))))) (ME.p1 (me_modC (n := 3) (by decide) (ME.p1 (me_divC (n := 40) (by decide) (me_var 6) me_int)) me_int)))) (fun x_law_special => mb_eqS (S' := [some (.im (Py.r (Gb.mk K mg) (x_law_cell_here : Int))), some (.im (Py.r (Gb.mk K mg) (x_law_kinds : Int))), some (.im (Py.r (Gb.mk K mg) (x_law_great : Bool))), some (.im (Py.r (Gb.mk K mg) (x_law_head : Int))), some (.fr (rl (Gb.mk K mg) (z2 : (List (T4 Int Int Int (Option Int)))))), some (.im (Py.r (Gb.mk K mg) (x_law_k : Int))), some (.im (Py.r (Gb.mk K mg) (x_law_drawn : Int))), some (.im (Py.r (Gb.mk K mg) (x_law_many : Int))), some (.im (Py.r (Gb.mk K mg) (x_law_special : (Option Int)))), none]) rfl (mb_app 4 (ME.p3 (ME.p3 (me_t4 (ME.p1 (ME.p1 (me_mod (ME.p1 (me_divC (n := 120) (by decide) (me_var 6) me_int)) (me_var 1)))) (me_call (ok_law_coins T) hr (by decide) T.m_law_coins T.k_law_coins T.b_law_coins_2 .nil (MA.p1 (ma_cons (args := fun p : Bool × Unit => [.im (Py.r (Gb.mk K mg) p.1)]) (ME.p1 (me_divC (n := 7) (by decide) (me_var 6) me_int)) co_im (fun _ => (MA.p1 (ma_cons (args := fun p : Unit => []) (me_var 2) co_im (fun _ => ma_nl))))))) (me_var 7) (me_var 8)))) (fun x_law_lines => mb_nil (b := x_law_lines) kx_n (.keep (.keep (.keep (.keep (.keep (.drop (.drop (.drop (.drop (.keep .nil)))))))))))))))) (fun (z16 : (List (T4 Int Int Int (Option Int)))) => mb_ifP (S' := (fun z17 : (List (T4 Int Int Int (Option Int))) => [some (.im (Py.r (Gb.mk K mg) (x_law_cell_here : Int))), some (.im (Py.r (Gb.mk K mg) (x_law_kinds : Int))), some (.im (Py.r (Gb.mk K mg) (x_law_great : Bool))), some (.im (Py.r (Gb.mk K mg) (x_law_head : Int))), some (.fr (rl (Gb.mk K mg) (z17 : (List (T4 Int Int Int (Option Int)))))), none, none, none, none, none])) (mt_viewF 4 rfl (mt_cm (MC.p1 (MC.p1 (mc_gt (ME.p1 (me_sum T.g_sum (ME.p1 (me_lcP (α := (T4 Int Int Int (Option Int))) (own := [("_law_line", 9)]) sc_law_basket.nd (mi_lst (ms_im (me_var 4))) (by first | (show blkC ["_law_cell_here", "_law_kinds", "_law_great", "_law_head", "_law_lines", "_law_k", "_law_drawn", "_law_many", "_law_special", "_law_line"] (defScope s_law_basket) _ _ = true; decide +kernel) | rfl) (by decide) (fun _ _ _ _ _ => (mg_name 9 sc_law_basket.nd)) (fun _ _ _ _ _ (x_law_line : (T4 Int Int Int (Option Int))) => (ME.p1 (me_tix 2 (me_var 9) t4_2))))))) me_int))))) (MB.p1 (mb_set 4 sc_law_basket.nd (ME.p1 (ME.p1 (ME.p1 (me_cut (me_own 4) mo_none (MO.p1 (mo_some me_int)))))) (fun x_law_lines => mb_nil (b := x_law_lines) kx_n (.keep (.keep (.keep (.keep (.keep (.keep (.keep (.keep (.keep (.keep .nil))))))))))))) (mb_nil (b := z16) kx_n (.keep (.keep (.keep (.keep (.keep (.keep (.keep (.keep (.keep (.keep .nil))))))))))) (fun (z17 : (List (T4 Int Int Int (Option Int)))) => mb_frz 4 rfl (mb_retT (ME.p2 (ME.p1 (me_t3 (me_var 4) (me_call (ok_law_coins T) hr (by decide) T.m_law_coins T.k_law_coins T.b_law_coins_2 .nil (MA.p1 (ma_cons (args := fun p : Bool × Unit => [.im (Py.r (Gb.mk K mg) p.1)]) (ME.p1 (me_divC (n := 5) (by decide) (me_var 3) me_int)) co_im (fun _ => (MA.p1 (ma_cons (args := fun p : Unit => []) (me_var 2) co_im (fun _ => ma_nl))))))) (me_cm (MC.p1 (MC.p1 (mc_eq (α := Int) hr.units (Nat.le_of_ble_eq_true rfl) (ME.p1 (me_modC (n := 3) (by decide) (ME.p1 (me_divC (n := 5) (by decide) (me_var 3) me_int)) me_int)) me_int)))))))))))))) ?_
  delta M.law_basket
  rfl
theorem ok_law_begun (T : Tx K mg) : FnOk P w K mg base CX0 1 T.f_law_begun T.d_law_begun ["_law_told"] (spT (Gb.mk K mg) (fun p : (T3 (List (T4 Int Int Int (Option Int))) Int Bool) × Unit => [.im (Py.r (Gb.mk K mg) p.1)]) (fun p => M.law_begun p.1) (fun r : (HR [("prices" : Str), ("owners" : Str), ("marked" : Str)] (HC (List Int) (HC (List Int) (HC (List Bool) HU)))) => .ow (oC (wR [("prices" : Str), ("owners" : Str), ("marked" : Str)]) [(oF (rl (Gb.mk K mg) (r.s.h : (List Int)))), (oF (rl (Gb.mk K mg) (r.s.t.h : (List Int)))), (oF (rl (Gb.mk K mg) (r.s.t.t.h : (List Bool))))]))) := by
  refine fnx_mk T.F_law_begun sc_law_begun (fun _ => rfl) (fun _ => rfl) (by decide) (fun cdv A outer s H E I p hr => ?_)
  obtain ⟨x_law_told, ⟨⟩⟩ := p
  refine MB.eq (MB.p1 (mb_set 1 sc_law_begun.nd (ME.p1 (me_disR (MRO.p1 (MRO.p1 (mro_cons (me_lst (α := Int) ml_nil) (MRO.p1 (MRO.p1 (mro_cons (me_lst (α := Int) ml_nil) (MRO.p1 (MRO.p1 (mro_cons (ME.p1 (me_lcP (α := (T4 Int Int Int (Option Int))) (own := [("_law_line", 3)]) sc_law_begun.nd (mi_lst (ms_im (ME.p1 (me_tix 0 (me_var 0) t3_0)))) (by first | (show blkC ["_law_told", "_law_state", "_law_k", "_law_line", "_law_piece"] (defScope s_law_begun) _ _ = true; decide +kernel) | rfl) (by decide) (fun _ _ _ _ _ => (mg_name 3 sc_law_begun.nd)) (fun _ _ _ _ _ (x_law_line : (T4 Int Int Int (Option Int))) => me_bl))) mro_nil))))))))))) (fun x_law_state => MB.p1 (mb_for (S' := (fun z3 : ((List Int) × (List Int) × (List Bool)) => [some (.im (Py.r (Gb.mk K mg) (x_law_told : (T3 (List (T4 Int Int Int (Option Int))) Int Bool)))), some (.ow (oC (wR [("prices" : Str), ("owners" : Str), ("marked" : Str)]) [(oF (rl (Gb.mk K mg) (z3.1 : (List Int)))), (oF (rl (Gb.mk K mg) (z3.2.1 : (List Int)))), (oF (rl (Gb.mk K mg) (z3.2.2 : (List Bool))))])), none, none, none])) (s0 := (x_law_state.s.h, x_law_state.s.t.h, x_law_state.s.t.t.h)) PassesOwn.never (MI.p1 (mi_enum T.g_enumerate (ms_im (ME.p1 (me_tix 0 (me_var 0) t3_0))))) (mg_t2 2 3 sc_law_begun.nd) (.keep (.keep (.keep (.keep (.keep .nil))))) (fun _ (z3 : ((List Int) × (List Int) × (List Bool))) (it4 : (T2 Int (T4 Int Int Int (Option Int)))) => mb_for (S' := (fun z5 : ((List Int) × (List Int) × (List Bool)) => [some (.im (Py.r (Gb.mk K mg) (x_law_told : (T3 (List (T4 Int Int Int (Option Int))) Int Bool)))), some (.ow (oC (wR [("prices" : Str), ("owners" : Str), ("marked" : Str)]) [(oF (rl (Gb.mk K mg) (z5.1 : (List Int)))), (oF (rl (Gb.mk K mg) (z5.2.1 : (List Int)))), (oF (rl (Gb.mk K mg) (z5.2.2 : (List Bool))))])), some (.im (Py.r (Gb.mk K mg) (it4.x0 : Int))), some (.im (Py.r (Gb.mk K mg) (it4.x1 : (T4 Int Int Int (Option Int))))), none])) (s0 := (z3.1, z3.2.1, z3.2.2)) PassesOwn.never (MI.p1 (mi_rng1 T.g_range (ME.p1 (me_tix 2 (me_var 3) t4_2)))) (mg_name 4 sc_law_begun.nd) (.keep (.keep (.keep (.keep (.keep .nil))))) (fun _ (z5 : ((List Int) × (List Int) × (List Bool))) (x_law_piece : Int) => MB.p1 (MB.p1 (mb_appP (mp_key (oj := fun _ => (oF (rl (Gb.mk K mg) (z5.2.1 : (List Int))))) hr.units 1 (mp_ow 1 (o1 := (oC (wR [("prices" : Str), ("owners" : Str), ("marked" : Str)]) [(oF (rl (Gb.mk K mg) (z5.1 : (List Int)))), (oF (rl (Gb.mk K mg) (z5.2.1 : (List Int)))), (oF (rl (Gb.mk K mg) (z5.2.2 : (List Bool))))])))) (me_var 2) (fun _ x_law_state_1 => MB.p1 (mb_if (S' := (fun z6 : ((List Int) × (List Int) × (List Bool)) => [some (.im (Py.r (Gb.mk K mg) (x_law_told : (T3 (List (T4 Int Int Int (Option Int))) Int Bool)))), some (.ow (oC (wR [("prices" : Str), ("owners" : Str), ("marked" : Str)]) [(oF (rl (Gb.mk K mg) (z6.1 : (List Int)))), (oF (rl (Gb.mk K mg) (z6.2.1 : (List Int)))), (oF (rl (Gb.mk K mg) (z6.2.2 : (List Bool))))])), some (.im (Py.r (Gb.mk K mg) (it4.x0 : Int))), some (.im (Py.r (Gb.mk K mg) (it4.x1 : (T4 Int Int Int (Option Int))))), some (.im (Py.r (Gb.mk K mg) (x_law_piece : Int)))])) (mt_w (mw_andP (mt_val (ME.p1 (me_tix 2 (me_var 0) t3_2))) (mw_and1 (mt_cm (MC.p1 (mc_ntN (ME.p1 (me_tix 3 (me_var 3) t4_3)))))))) (MB.p1 (mb_appP (mp_key (oj := fun _ => (oF (rl (Gb.mk K mg) (z5.1 : (List Int))))) hr.units 0 (mp_ow 1 (o1 := (oC (wR [("prices" : Str), ("owners" : Str), ("marked" : Str)]) [(oF (rl (Gb.mk K mg) (z5.1 : (List Int)))), (oF (rl (Gb.mk K mg) (x_law_state_1 : (List Int)))), (oF (rl (Gb.mk K mg) (z5.2.2 : (List Bool))))])))) (ME.p1 (me_get (ME.p1 (me_tix 3 (me_var 3) t4_3)))) (fun _ x_law_state_0 => mb_nil (b := (x_law_state_0, x_law_state_1, z5.2.2)) kx_n (.keep (.keep (.keep (.keep (.keep .nil)))))))) (MB.p1 (MB.p1 (mb_appP (mp_key (oj := fun _ => (oF (rl (Gb.mk K mg) (z5.1 : (List Int))))) hr.units 0 (mp_ow 1 (o1 := (oC (wR [("prices" : Str), ("owners" : Str), ("marked" : Str)]) [(oF (rl (Gb.mk K mg) (z5.1 : (List Int)))), (oF (rl (Gb.mk K mg) (x_law_state_1 : (List Int)))), (oF (rl (Gb.mk K mg) (z5.2.2 : (List Bool))))])))) (ME.p1 (me_tix 1 (me_var 3) t4_1)) (fun _ x_law_state_0 => mb_nil (b := (x_law_state_0, x_law_state_1, z5.2.2)) kx_n (.keep (.keep (.keep (.keep (.keep .nil))))))))) (fun (z6 : ((List Int) × (List Int) × (List Bool))) => mb_nil (b := (z6.1, z6.2.1, z6.2.2)) kx_n (.keep (.keep (.keep (.keep (.drop .nil))))))))))) (fun (z9 : ((List Int) × (List Int) × (List Bool))) => mb_nil (b := (z9.1, z9.2.1, z9.2.2)) kx_n (.keep (.keep (.drop (.drop (.keep .nil))))))) (fun (z11 : ((List Int) × (List Int) × (List Bool))) => mb_retOw (r := ((HR.mk (ns := [("prices" : Str), ("owners" : Str), ("marked" : Str)]) (HC.mk z11.1 (HC.mk z11.2.1 (HC.mk z11.2.2 HU.mk)))) : (HR [("prices" : Str), ("owners" : Str), ("marked" : Str)] (HC (List Int) (HC (List Int) (HC (List Bool) HU)))))) 1 kr_t))))) ?_
  delta M.law_begun
  rfl
theorem ok_law_voucher (T : Tx K mg) : FnOk P w K mg base CX0 2 T.f_law_voucher T.d_law_voucher ["_law_cell_here", "_law_kinds", "_law_great", "_law_total"] (spT (Gb.mk K mg) (fun p : Int × Int × Bool × Int × Unit => [.im (Py.r (Gb.mk K mg) p.1), .im (Py.r (Gb.mk K mg) p.2.1), .im (Py.r (Gb.mk K mg) p.2.2.1), .im (Py.r (Gb.mk K mg) p.2.2.2.1)]) (fun p => M.law_voucher p.1 p.2.1 p.2.2.1 p.2.2.2.1) (fun r => .im (Py.r (Gb.mk K mg) (r : PyData)))) := by
  refine fnx_mk T.F_law_voucher sc_law_voucher (fun _ => rfl) (fun _ => rfl) (by decide) (fun cdv A outer s H E I p hr => ?_)
  obtain ⟨x_law_cell_here, x_law_kinds, x_law_great, x_law_total, ⟨⟩⟩ := p
  refine MB.eq (mb_set 4 sc_law_voucher.nd (me_call (ok_law_mixed T) hr (by decide) T.m_law_mixed T.k_law_mixed T.b_law_mixed_2 .nil (MA.p1 (ma_cons (args := fun p : Int × Unit => [.im (Py.r (Gb.mk K mg) p.1)]) (me_var 0) co_im (fun _ => (MA.p1 (ma_cons (args := fun p : Unit => []) me_int co_im (fun _ => ma_nl))))))) (fun x_law_drawn => mb_set 5 sc_law_voucher.nd (me_call (ok_law_mixed T) hr (by decide) T.m_law_mixed T.k_law_mixed T.b_law_mixed_2 .nil (MA.p1 (ma_cons (args := fun p : Int × Unit => [.im (Py.r (Gb.mk K mg) p.1)]) (me_var 0) co_im (fun _ => (MA.p1 (ma_cons (args := fun p : Unit => []) me_int co_im (fun _ => ma_nl))))))) (fun x_law_other => mb_set 6 sc_law_voucher.nd (ME.p2 (me_ix (me_lst (α := Int) (ML.p1 (ml_cons me_int (ML.p1 (ml_cons me_int (ML.p1 (ml_cons (me_var 3) (ML.p1 (ml_cons (ME.p1 (ME.p1 (me_add (me_var 3) me_int))) (ML.p1 (ml_cons (ME.p1 (me_divC (n := 2) (by decide) (me_var 3) me_int)) (ML.p1 (ml_cons (ME.p1 (ME.p1 (me_sub (me_var 3) (ME.p1 (me_divC (n := 3) (by decide) (me_var 3) me_int))))) (ML.p2 (ml_cons (me_call (ok_law_coins T) hr (by decide) T.m_law_coins T.k_law_coins T.b_law_coins_2 .nil (MA.p1 (ma_cons (args := fun p : Bool × Unit => [.im (Py.r (Gb.mk K mg) p.1)]) (me_var 5) co_im (fun _ => (MA.p1 (ma_cons (args := fun p : Unit => []) (me_var 2) co_im (fun _ => ma_nl))))))) ml_nil))))))))))))))) (ME.p1 (me_modC (n := 7) (by decide) (ME.p1 (me_divC (n := 4) (by decide) (me_var 4) me_int)) me_int)))) (fun x_law_needs => mb_set 7 sc_law_voucher.nd (ME.p2 (me_ix (me_lst (α := (Option Int)) (ML.p1 (ml_cons me_non (ML.p1 (ml_cons me_non (ML.p2 (ml_cons (me_some (α := Int) (ME.p1 (ME.p1 (me_mod (ME.p1 (me_divC (n := 3) (by decide) (me_var 5) me_int)) (me_var 1))))) ml_nil))))))) (ME.p1 (me_modC (n := 3) (by decide) (me_var 5) me_int)))) (fun x_law_kind => mb_eqS (S' := [some (.im (Py.r (Gb.mk K mg) (x_law_cell_here : Int))), some (.im (Py.r (Gb.mk K mg) (x_law_kinds : Int))), some (.im (Py.r (Gb.mk K mg) (x_law_great : Bool))), some (.im (Py.r (Gb.mk K mg) (x_law_total : Int))), some (.im (Py.r (Gb.mk K mg) (x_law_drawn : Int))), some (.im (Py.r (Gb.mk K mg) (x_law_other : Int))), some (.im (Py.r (Gb.mk K mg) (x_law_needs : Int))), some (.im (Py.r (Gb.mk K mg) (x_law_kind : (Option Int)))), none]) rfl (MB.p1 (mb_set 8 sc_law_voucher.nd (ME.p1 (me_ht (MLH.p1 (MLH.p1 (mlh_cons (me_var 7) (MLH.p1 (MLH.p1 (mlh_cons (ME.p1 (ME.p1 (me_min T.g_min (me_powC (n := 10) (k := 12) (v := 1000000000000) (by decide) (by decide) me_int me_int) (me_var 6)))) (MLH.p1 (MLH.p1 (mlh_cons me_non (MLH.p1 (MLH.p1 (mlh_cons (me_cm (MC.p1 (MC.p1 (mc_eq (α := Int) hr.units (Nat.le_of_ble_eq_true rfl) (ME.p1 (me_modC (n := 8) (by decide) (ME.p1 (me_divC (n := 60) (by decide) (me_var 5) me_int)) me_int)) me_int)))) (MLH.p1 (MLH.p1 (mlh_cons me_bl (MLH.p1 (MLH.p1 (mlh_cons (me_cm (MC.p1 (MC.p1 (mc_eq (α := Int) hr.units (Nat.le_of_ble_eq_true rfl) (ME.p1 (me_modC (n := 2) (by decide) (ME.p1 (me_divC (n := 480) (by decide) (me_var 5) me_int)) me_int)) me_int)))) mlh_nil)))))))))))))))))))) (fun x_law_marks => MB.p1 (mb_ift (mt_cm (MC.p1 (MC.p1 (mc_lt (ME.p1 (me_modC (n := 4) (by decide) (me_var 4) me_int)) me_int)))) (mb_retT (me_toD (α := (T3 Str Int (HT (HC (Option Int) (HC Int (HC (Option Int) (HC Bool (HC Bool (HC Bool HU))))))))) (ME.p2 (ME.p1 (me_t3 me_str (ME.p2 (me_ix (me_lst (α := Int) (ML.p1 (ml_cons me_int (ML.p2 (ml_cons (me_call (ok_law_coins T) hr (by decide) T.m_law_coins T.k_law_coins T.b_law_coins_2 .nil (MA.p1 (ma_cons (args := fun p : Bool × Unit => [.im (Py.r (Gb.mk K mg) p.1)]) (ME.p1 (me_divC (n := 28) (by decide) (me_var 4) me_int)) co_im (fun _ => (MA.p1 (ma_cons (args := fun p : Unit => []) (me_var 2) co_im (fun _ => ma_nl))))))) ml_nil))))) (ME.p1 (me_modC (n := 2) (by decide) (ME.p1 (me_divC (n := 28) (by decide) (me_var 4) me_int)) me_int)))) (me_var 8)))))) (MB.p1 (mb_ift (mt_cm (MC.p1 (MC.p1 (mc_eq (α := Int) hr.units (Nat.le_of_ble_eq_true rfl) (ME.p1 (me_modC (n := 4) (by decide) (me_var 4) me_int)) me_int)))) (mb_retT (me_toD (α := (T3 Str Int (HT (HC (Option Int) (HC Int (HC (Option Int) (HC Bool (HC Bool (HC Bool HU))))))))) (ME.p2 (ME.p1 (me_t3 me_str (ME.p1 (ME.p1 (me_ix (me_lst (α := Int) (ML.p1 (ML.p1 (ml_cons me_int (ML.p1 (ML.p1 (ml_cons me_int (ML.p1 (ML.p1 (ml_cons (ME.p1 (ME.p1 (me_add me_int (ME.p1 (me_modC (n := 1000) (by decide) (ME.p1 (me_divC (n := 84) (by decide) (me_var 4) me_int)) me_int))))) ml_nil)))))))))) (ME.p1 (me_modC (n := 3) (by decide) (ME.p1 (me_divC (n := 28) (by decide) (me_var 4) me_int)) me_int))))) (me_var 8)))))) (mb_retT (ME.p1 (me_toD (α := (T2 Str (HT (HC (Option Int) (HC Int (HC (Option Int) (HC Bool (HC Bool (HC Bool HU))))))))) (ME.p1 (ME.p1 (me_t2 me_str (me_var 8))))))) hk_t)) hk_t))))))))) ?_
  delta M.law_voucher
  rfl
theorem ok_Marks_init (T : Tx K mg) : FnOk P w K mg base CX0 1 T.f_Marks_init T.d_Marks_init ["self", "kind", "needs", "most", "member", "once", "lone"] (spIO (Gb.mk K mg) (fun p : (Option Int) × Int × (Option Int) × Bool × Bool × Bool × Unit => .ow (oC (wI (Gb.mk K mg) "Marks" []) []) :: [.im (Py.r (Gb.mk K mg) p.1), .im (Py.r (Gb.mk K mg) p.2.1), .im (Py.r (Gb.mk K mg) p.2.2.1), .im (Py.r (Gb.mk K mg) p.2.2.2.1), .im (Py.r (Gb.mk K mg) p.2.2.2.2.1), .im (Py.r (Gb.mk K mg) p.2.2.2.2.2.1)]) (fun p => some (M.Marks_init p.1 p.2.1 p.2.2.1 p.2.2.2.1 p.2.2.2.2.1 p.2.2.2.2.2.1)) (fun _ => .im (Py.r (Gb.mk K mg) ())) (fun r : MarksD => [(0, (o_Marks K mg r))])) := by
  refine fiu_mk T.F_Marks_init sc_Marks_init (fun _ => rfl) (by decide) (fun _ p hp => by rw [List.mem_singleton.mp hp]; exact Nat.succ_pos _) (fun cdv A outer s H E I R u p hr => ?_)
  obtain ⟨x_kind, x_needs, x_most, x_member, x_once, x_lone, ⟨⟩⟩ := p
  refine MB.eq (MB.p1 (MB.p1 (mb_fldN (me_var 1) (mp_pin 0 (v0 := u 0) (o1 := (oC (wI (Gb.mk K mg) "Marks" []) []))) ⟨_, T.m_Marks, T.cl_Marks, T.n_Marks_kind⟩ (fun _ x_self_kind => MB.p1 (MB.p1 (mb_fldN (me_var 2) (mp_pin 0 (v0 := u 0) (o1 := (oC (wI (Gb.mk K mg) "Marks" ["kind"]) [(oI (Py.r (Gb.mk K mg) (x_self_kind : (Option Int))))]))) ⟨_, T.m_Marks, T.cl_Marks, T.n_Marks_needs⟩ (fun _ x_self_needs => MB.p1 (MB.p1 (mb_fldN (me_var 3) (mp_pin 0 (v0 := u 0) (o1 := (oC (wI (Gb.mk K mg) "Marks" ["kind", "needs"]) [(oI (Py.r (Gb.mk K mg) (x_self_kind : (Option Int)))), (oI (Py.r (Gb.mk K mg) (x_self_needs : Int)))]))) ⟨_, T.m_Marks, T.cl_Marks, T.n_Marks_most⟩ (fun _ x_self_most => MB.p1 (MB.p1 (mb_fldN (me_var 4) (mp_pin 0 (v0 := u 0) (o1 := (oC (wI (Gb.mk K mg) "Marks" ["kind", "needs", "most"]) [(oI (Py.r (Gb.mk K mg) (x_self_kind : (Option Int)))), (oI (Py.r (Gb.mk K mg) (x_self_needs : Int))), (oI (Py.r (Gb.mk K mg) (x_self_most : (Option Int))))]))) ⟨_, T.m_Marks, T.cl_Marks, T.n_Marks_member⟩ (fun _ x_self_member => mb_eqS (S' := [some (.ow (oP (u 0) (oC (wI (Gb.mk K mg) "Marks" ["kind", "needs", "most", "member"]) [(oI (Py.r (Gb.mk K mg) (x_self_kind : (Option Int)))), (oI (Py.r (Gb.mk K mg) (x_self_needs : Int))), (oI (Py.r (Gb.mk K mg) (x_self_most : (Option Int)))), (oI (Py.r (Gb.mk K mg) (x_self_member : Bool)))]))), some (.im (Py.r (Gb.mk K mg) (x_kind : (Option Int)))), some (.im (Py.r (Gb.mk K mg) (x_needs : Int))), some (.im (Py.r (Gb.mk K mg) (x_most : (Option Int)))), some (.im (Py.r (Gb.mk K mg) (x_member : Bool))), some (.im (Py.r (Gb.mk K mg) (x_once : Bool))), some (.im (Py.r (Gb.mk K mg) (x_lone : Bool)))]) rfl (MB.p1 (MB.p1 (mb_fldN (me_var 5) (mp_pin 0 (v0 := u 0) (o1 := (oC (wI (Gb.mk K mg) "Marks" ["kind", "needs", "most", "member"]) [(oI (Py.r (Gb.mk K mg) (x_self_kind : (Option Int)))), (oI (Py.r (Gb.mk K mg) (x_self_needs : Int))), (oI (Py.r (Gb.mk K mg) (x_self_most : (Option Int)))), (oI (Py.r (Gb.mk K mg) (x_self_member : Bool)))]))) ⟨_, T.m_Marks, T.cl_Marks, T.n_Marks_once⟩ (fun _ x_self_once => MB.p1 (MB.p1 (mb_fldN (me_var 6) (mp_pin 0 (v0 := u 0) (o1 := (oC (wI (Gb.mk K mg) "Marks" ["kind", "needs", "most", "member", "once"]) [(oI (Py.r (Gb.mk K mg) (x_self_kind : (Option Int)))), (oI (Py.r (Gb.mk K mg) (x_self_needs : Int))), (oI (Py.r (Gb.mk K mg) (x_self_most : (Option Int)))), (oI (Py.r (Gb.mk K mg) (x_self_member : Bool))), (oI (Py.r (Gb.mk K mg) (x_self_once : Bool)))]))) ⟨_, T.m_Marks, T.cl_Marks, T.n_Marks_lone⟩ (fun _ x_self_lone => mb_endU (b := (MarksD.mk x_self_kind x_self_needs x_self_most x_self_member x_self_once x_self_lone)) (.cons rfl .nil))))))))))))))))))))) ?_
  delta M.Marks_init
  rfl
theorem ok_Voucher_init (T : Tx K mg) : FnOk P w K mg base CX0 3 T.f_Voucher_init T.d_Voucher_init ["self", "marks"] (spIO (Gb.mk K mg) (fun p : (Option MarksD) × Unit => .ow (oC (wI (Gb.mk K mg) "Off" []) []) :: [.im (Py.r (Gb.mk K mg) p.1)]) (fun p => some (M.Voucher_init p.1)) (fun _ => .im (Py.r (Gb.mk K mg) ())) (fun r : (Option MarksD) => [(0, (oC (wI (Gb.mk K mg) "Off" ["marks"]) [(oI (Py.r (Gb.mk K mg) (r : (Option MarksD))))]))])) := by
  refine fiu_mk T.F_Voucher_init sc_Voucher_init (fun _ => rfl) (by decide) (fun _ p hp => by rw [List.mem_singleton.mp hp]; exact Nat.succ_pos _) (fun cdv A outer s H E I R u p hr => ?_)
  obtain ⟨x_marks, ⟨⟩⟩ := p
  refine MB.eq (MB.p1 (MB.p1 (mb_fldN (me_ifP (mt_cm (MC.p1 (mc_isN (me_var 1)))) (ME.p1 (me_some (α := MarksD) (me_frzO (fun _ => (z_Marks _)) (ME.eq (me_make0 (or := fun r => o_Marks K mg r) ((none : (Option Int)), ((0 : Int) : Int), (none : (Option Int)), (false : Bool), (false : Bool), (false : Bool), ()) (ok_Marks_init T) hr (by decide) T.mk_Marks T.m_Marks T.b_Marks_init_1 T.v_Marks_init_1 (by exact (fun _ _ => .cons rfl (.cons rfl (.cons rfl (.cons rfl (.cons rfl (.cons rfl (.nil))))))))) (m' := some (M.Marks_init (none : (Option Int)) ((0 : Int) : Int) (none : (Option Int)) (false : Bool) (false : Bool) (false : Bool))) rfl)))) (me_var 1)) (mp_pin 0 (v0 := u 0) (o1 := (oC (wI (Gb.mk K mg) "Off" []) []))) ⟨_, T.m_Off, T.cl_Off, T.n_Off_marks⟩ (fun _ x_self_marks => mb_endU (b := x_self_marks) (.cons rfl .nil))))) ?_
  delta M.Voucher_init
  rfl
theorem ok_Off_init (T : Tx K mg) : FnOk P w K mg base CX0 4 T.f_Off_init T.d_Off_init ["self", "amount", "marks"] (spIO (Gb.mk K mg) (fun p : Int × (Option MarksD) × Unit => .ow (oC (wI (Gb.mk K mg) "Off" []) []) :: [.im (Py.r (Gb.mk K mg) p.1), .im (Py.r (Gb.mk K mg) p.2.1)]) (fun p => some (M.Off_init p.1 p.2.1)) (fun _ => .im (Py.r (Gb.mk K mg) ())) (fun r : OffD => [(0, (o_Off K mg r))])) := by
  refine fiu_mk T.F_Off_init sc_Off_init (fun _ => rfl) (by decide) (fun _ p hp => by rw [List.mem_singleton.mp hp]; exact Nat.succ_pos _) (fun cdv A outer s H E I R u p hr => ?_)
  obtain ⟨x_amount, x_marks, ⟨⟩⟩ := p
  refine MB.eq (MB.p1 (mb_clsInit (or := fun r : (Option MarksD) => (oC (wI (Gb.mk K mg) "Off" ["marks"]) [(oI (Py.r (Gb.mk K mg) (r : (Option MarksD))))])) 0 (ok_Voucher_init T) hr (by decide) T.m_Voucher T.cr_Voucher T.cv_Voucher_Voucher_init T.k_Voucher_init T.b_Voucher_init_2 .nil (MA.p1 (ma_cons (args := fun p : Unit => []) (me_var 2) co_im (fun _ => ma_nl))) (fun r1 => MB.p1 (MB.p1 (mb_fldN (me_var 1) (mp_pin 0 (v0 := u 0) (o1 := (oC (wI (Gb.mk K mg) "Off" ["marks"]) [(oI (Py.r (Gb.mk K mg) (r1 : (Option MarksD))))]))) ⟨_, T.m_Off, T.cl_Off, T.n_Off_amount⟩ (fun _ x_self_amount => mb_endU (b := (OffD.mk r1 x_self_amount)) (.cons rfl .nil))))))) ?_
  delta M.Off_init
  rfl
theorem ok_Voucher_init_1 (T : Tx K mg) : FnOk P w K mg base CX0 3 T.f_Voucher_init T.d_Voucher_init ["self", "marks"] (spIO (Gb.mk K mg) (fun p : (Option MarksD) × Unit => .ow (oC (wI (Gb.mk K mg) "Share" []) []) :: [.im (Py.r (Gb.mk K mg) p.1)]) (fun p => some (M.Voucher_init_1 p.1)) (fun _ => .im (Py.r (Gb.mk K mg) ())) (fun r : (Option MarksD) => [(0, (oC (wI (Gb.mk K mg) "Share" ["marks"]) [(oI (Py.r (Gb.mk K mg) (r : (Option MarksD))))]))])) := by
  refine fiu_mk T.F_Voucher_init sc_Voucher_init (fun _ => rfl) (by decide) (fun _ p hp => by rw [List.mem_singleton.mp hp]; exact Nat.succ_pos _) (fun cdv A outer s H E I R u p hr => ?_)
  obtain ⟨x_marks, ⟨⟩⟩ := p
  refine MB.eq (MB.p1 (MB.p1 (mb_fldN (me_ifP (mt_cm (MC.p1 (mc_isN (me_var 1)))) (ME.p1 (me_some (α := MarksD) (me_frzO (fun _ => (z_Marks _)) (ME.eq (me_make0 (or := fun r => o_Marks K mg r) ((none : (Option Int)), ((0 : Int) : Int), (none : (Option Int)), (false : Bool), (false : Bool), (false : Bool), ()) (ok_Marks_init T) hr (by decide) T.mk_Marks T.m_Marks T.b_Marks_init_1 T.v_Marks_init_1 (by exact (fun _ _ => .cons rfl (.cons rfl (.cons rfl (.cons rfl (.cons rfl (.cons rfl (.nil))))))))) (m' := some (M.Marks_init (none : (Option Int)) ((0 : Int) : Int) (none : (Option Int)) (false : Bool) (false : Bool) (false : Bool))) rfl)))) (me_var 1)) (mp_pin 0 (v0 := u 0) (o1 := (oC (wI (Gb.mk K mg) "Share" []) []))) ⟨_, T.m_Share, T.cl_Share, T.n_Share_marks⟩ (fun _ x_self_marks => mb_endU (b := x_self_marks) (.cons rfl .nil))))) ?_
  delta M.Voucher_init_1
  rfl
theorem ok_Share_init (T : Tx K mg) : FnOk P w K mg base CX0 4 T.f_Share_init T.d_Share_init ["self", "share", "by_line", "marks"] (spIO (Gb.mk K mg) (fun p : Int × Bool × (Option MarksD) × Unit => .ow (oC (wI (Gb.mk K mg) "Share" []) []) :: [.im (Py.r (Gb.mk K mg) p.1), .im (Py.r (Gb.mk K mg) p.2.1), .im (Py.r (Gb.mk K mg) p.2.2.1)]) (fun p => some (M.Share_init p.1 p.2.1 p.2.2.1)) (fun _ => .im (Py.r (Gb.mk K mg) ())) (fun r : ShareD => [(0, (o_Share K mg r))])) := by
  refine fiu_mk T.F_Share_init sc_Share_init (fun _ => rfl) (by decide) (fun _ p hp => by rw [List.mem_singleton.mp hp]; exact Nat.succ_pos _) (fun cdv A outer s H E I R u p hr => ?_)
  obtain ⟨x_share, x_by_line, x_marks, ⟨⟩⟩ := p
  refine MB.eq (MB.p1 (mb_clsInit (or := fun r : (Option MarksD) => (oC (wI (Gb.mk K mg) "Share" ["marks"]) [(oI (Py.r (Gb.mk K mg) (r : (Option MarksD))))])) 0 (ok_Voucher_init_1 T) hr (by decide) T.m_Voucher T.cr_Voucher T.cv_Voucher_Voucher_init T.k_Voucher_init T.b_Voucher_init_2 .nil (MA.p1 (ma_cons (args := fun p : Unit => []) (me_var 3) co_im (fun _ => ma_nl))) (fun r1 => MB.p1 (MB.p1 (mb_fldN (me_var 1) (mp_pin 0 (v0 := u 0) (o1 := (oC (wI (Gb.mk K mg) "Share" ["marks"]) [(oI (Py.r (Gb.mk K mg) (r1 : (Option MarksD))))]))) ⟨_, T.m_Share, T.cl_Share, T.n_Share_share⟩ (fun _ x_self_share => MB.p1 (MB.p1 (mb_fldN (me_var 2) (mp_pin 0 (v0 := u 0) (o1 := (oC (wI (Gb.mk K mg) "Share" ["marks", "share"]) [(oI (Py.r (Gb.mk K mg) (r1 : (Option MarksD)))), (oI (Py.r (Gb.mk K mg) (x_self_share : Int)))]))) ⟨_, T.m_Share, T.cl_Share, T.n_Share_by_line⟩ (fun _ x_self_by_line => mb_endU (b := (ShareD.mk r1 x_self_share x_self_by_line)) (.cons rfl .nil)))))))))) ?_
  delta M.Share_init
  rfl
theorem ok_Voucher_init_2 (T : Tx K mg) : FnOk P w K mg base CX0 3 T.f_Voucher_init T.d_Voucher_init ["self", "marks"] (spIO (Gb.mk K mg) (fun p : (Option MarksD) × Unit => .ow (oC (wI (Gb.mk K mg) "Carriage" []) []) :: [.im (Py.r (Gb.mk K mg) p.1)]) (fun p => some (M.Voucher_init_2 p.1)) (fun _ => .im (Py.r (Gb.mk K mg) ())) (fun r : CarriageD => [(0, (o_Carriage K mg r))])) := by
  refine fiu_mk T.F_Voucher_init sc_Voucher_init (fun _ => rfl) (by decide) (fun _ p hp => by rw [List.mem_singleton.mp hp]; exact Nat.succ_pos _) (fun cdv A outer s H E I R u p hr => ?_)
  obtain ⟨x_marks, ⟨⟩⟩ := p
  refine MB.eq (MB.p1 (MB.p1 (mb_fldN (me_ifP (mt_cm (MC.p1 (mc_isN (me_var 1)))) (ME.p1 (me_some (α := MarksD) (me_frzO (fun _ => (z_Marks _)) (ME.eq (me_make0 (or := fun r => o_Marks K mg r) ((none : (Option Int)), ((0 : Int) : Int), (none : (Option Int)), (false : Bool), (false : Bool), (false : Bool), ()) (ok_Marks_init T) hr (by decide) T.mk_Marks T.m_Marks T.b_Marks_init_1 T.v_Marks_init_1 (by exact (fun _ _ => .cons rfl (.cons rfl (.cons rfl (.cons rfl (.cons rfl (.cons rfl (.nil))))))))) (m' := some (M.Marks_init (none : (Option Int)) ((0 : Int) : Int) (none : (Option Int)) (false : Bool) (false : Bool) (false : Bool))) rfl)))) (me_var 1)) (mp_pin 0 (v0 := u 0) (o1 := (oC (wI (Gb.mk K mg) "Carriage" []) []))) ⟨_, T.m_Carriage, T.cl_Carriage, T.n_Carriage_marks⟩ (fun _ x_self_marks => mb_endU (b := (CarriageD.mk x_self_marks)) (.cons rfl .nil))))) ?_
  delta M.Voucher_init_2
  rfl
theorem ok_law_made (T : Tx K mg) : FnOk P w K mg base CX0 6 T.f_law_made T.d_law_made ["_law_told"] (spT (Gb.mk K mg) (fun p : PyData × Unit => [.im (Py.r (Gb.mk K mg) p.1)]) (fun p => M.law_made p.1) (fun r => .im (Py.r (Gb.mk K mg) (r : VoucherD)))) := by
  refine fnx_mk T.F_law_made sc_law_made (fun _ => rfl) (fun _ => rfl) (by decide) (fun cdv A outer s H E I p hr => ?_)
  obtain ⟨x_law_told, ⟨⟩⟩ := p
  refine MB.eq (mb_set 1 sc_law_made.nd (ME.p1 (me_atD (me_var 0) (ME.p2 (me_sub (ME.p1 (me_lenD T.g_len (me_var 0))) me_int)))) (fun x_law_marks => mb_set 2 sc_law_made.nd (me_make (or := fun r => o_Marks K mg r) (ok_Marks_init T) hr (by decide) T.mk_Marks T.m_Marks T.b_Marks_init_7 .nil (ma_cons (args := fun p : Int × (Option Int) × Bool × Bool × Bool × Unit => [.im (Py.r (Gb.mk K mg) p.1), .im (Py.r (Gb.mk K mg) p.2.1), .im (Py.r (Gb.mk K mg) p.2.2.1), .im (Py.r (Gb.mk K mg) p.2.2.2.1), .im (Py.r (Gb.mk K mg) p.2.2.2.2.1)]) (me_asOInt (ME.p1 (ME.p1 (me_atD (me_var 1) me_int)))) co_im (fun _ => (ma_cons (args := fun p : (Option Int) × Bool × Bool × Bool × Unit => [.im (Py.r (Gb.mk K mg) p.1), .im (Py.r (Gb.mk K mg) p.2.1), .im (Py.r (Gb.mk K mg) p.2.2.1), .im (Py.r (Gb.mk K mg) p.2.2.2.1)]) (me_asInt (ME.p1 (ME.p1 (me_atD (me_var 1) me_int)))) co_im (fun _ => (ma_cons (args := fun p : Bool × Bool × Bool × Unit => [.im (Py.r (Gb.mk K mg) p.1), .im (Py.r (Gb.mk K mg) p.2.1), .im (Py.r (Gb.mk K mg) p.2.2.1)]) (me_asOInt (ME.p1 (ME.p1 (me_atD (me_var 1) me_int)))) co_im (fun _ => (ma_cons (args := fun p : Bool × Bool × Unit => [.im (Py.r (Gb.mk K mg) p.1), .im (Py.r (Gb.mk K mg) p.2.1)]) (me_asBool (ME.p1 (ME.p1 (me_atD (me_var 1) me_int)))) co_im (fun _ => (ma_cons (args := fun p : Bool × Unit => [.im (Py.r (Gb.mk K mg) p.1)]) (me_asBool (ME.p1 (ME.p1 (me_atD (me_var 1) me_int)))) co_im (fun _ => (ma_cons (args := fun p : Unit => []) (me_asBool (ME.p1 (ME.p1 (me_atD (me_var 1) me_int)))) co_im (fun _ => ma_nl))))))))))))) (fun x_law_own => mb_ift (mt_cm (MC.p2 (mc_eqD hr.units (ME.p1 (ME.p1 (me_atD (me_var 0) me_int))) (ME.p1 (me_toD (α := Str) me_str))))) (mb_frzO (a := x_law_own) 2 (z_Marks _) rfl (mb_eqS (S' := [some (.im (Py.r (Gb.mk K mg) (x_law_told : PyData))), some (.im (Py.r (Gb.mk K mg) (x_law_marks : PyData))), some (.im (Py.r (Gb.mk K mg) (x_law_own : MarksD)))]) rfl (mb_retT (me_up (f := VoucherD.c_Off) (me_frzO (fun _ => (z_Off _)) (me_make (or := fun r => o_Off K mg r) (ok_Off_init T) hr (by decide) T.mk_Off T.m_Off T.b_Off_init_3 .nil (ma_cons (args := fun p : (Option MarksD) × Unit => [.im (Py.r (Gb.mk K mg) p.1)]) (me_asInt (ME.p1 (ME.p1 (me_atD (me_var 0) me_int)))) co_im (fun _ => (MA.p1 (ma_cons (args := fun p : Unit => []) (ME.p1 (me_some (α := MarksD) (me_var 2))) co_im (fun _ => ma_nl))))))))))) (mb_ift (mt_cm (MC.p2 (mc_eqD hr.units (ME.p1 (ME.p1 (me_atD (me_var 0) me_int))) (ME.p1 (me_toD (α := Str) me_str))))) (mb_eqS (S' := [some (.im (Py.r (Gb.mk K mg) (x_law_told : PyData))), some (.im (Py.r (Gb.mk K mg) (x_law_marks : PyData))), some (.ow (oC (wI (Gb.mk K mg) "Marks" ["kind", "needs", "most", "member", "once", "lone"]) [(oI (Py.r (Gb.mk K mg) (x_law_own.f_kind : (Option Int)))), (oI (Py.r (Gb.mk K mg) (x_law_own.f_needs : Int))), (oI (Py.r (Gb.mk K mg) (x_law_own.f_most : (Option Int)))), (oI (Py.r (Gb.mk K mg) (x_law_own.f_member : Bool))), (oI (Py.r (Gb.mk K mg) (x_law_own.f_once : Bool))), (oI (Py.r (Gb.mk K mg) (x_law_own.f_lone : Bool)))]))]) rfl (mb_frzO (a := x_law_own) 2 (z_Marks _) rfl (mb_retT (me_up (f := VoucherD.c_Share) (me_frzO (fun _ => (z_Share _)) (me_make (or := fun r => o_Share K mg r) (ok_Share_init T) hr (by decide) T.mk_Share T.m_Share T.b_Share_init_4 .nil (ma_cons (args := fun p : Bool × (Option MarksD) × Unit => [.im (Py.r (Gb.mk K mg) p.1), .im (Py.r (Gb.mk K mg) p.2.1)]) (me_asInt (ME.p1 (ME.p1 (me_atD (me_var 0) me_int)))) co_im (fun _ => (MA.p1 (ma_cons (args := fun p : (Option MarksD) × Unit => [.im (Py.r (Gb.mk K mg) p.1)]) me_bl co_im (fun _ => (MA.p1 (ma_cons (args := fun p : Unit => []) (ME.p1 (me_some (α := MarksD) (me_var 2))) co_im (fun _ => ma_nl)))))))))))))) (mb_eqS (S' := [some (.im (Py.r (Gb.mk K mg) (x_law_told : PyData))), some (.im (Py.r (Gb.mk K mg) (x_law_marks : PyData))), some (.ow (oC (wI (Gb.mk K mg) "Marks" ["kind", "needs", "most", "member", "once", "lone"]) [(oI (Py.r (Gb.mk K mg) (x_law_own.f_kind : (Option Int)))), (oI (Py.r (Gb.mk K mg) (x_law_own.f_needs : Int))), (oI (Py.r (Gb.mk K mg) (x_law_own.f_most : (Option Int)))), (oI (Py.r (Gb.mk K mg) (x_law_own.f_member : Bool))), (oI (Py.r (Gb.mk K mg) (x_law_own.f_once : Bool))), (oI (Py.r (Gb.mk K mg) (x_law_own.f_lone : Bool)))]))]) rfl (mb_frzO (a := x_law_own) 2 (z_Marks _) rfl (mb_retT (ME.p1 (me_up (f := VoucherD.c_Carriage) (me_frzO (fun _ => (z_Carriage _)) (me_make (or := fun r => o_Carriage K mg r) (ok_Voucher_init_2 T) hr (by decide) T.mk_Carriage T.m_Carriage T.b_Voucher_init_2 .nil (MA.p1 (ma_cons (args := fun p : Unit => []) (ME.p1 (me_some (α := MarksD) (me_var 2))) co_im (fun _ => ma_nl)))))))))) hk_t) hk_t))) ?_
  delta M.law_made
  rfl
theorem ok_Till_init (T : Tx K mg) : FnOk P w K mg base CX0 1 T.f_Till_init T.d_Till_init ["self", "parents", "vouchers", "rules", "back"] (spIO (Gb.mk K mg) (fun p : (List (Option Int)) × (List VoucherD) × (List (T3 Str Int Int)) × Str × Unit => .ow (oC (wI (Gb.mk K mg) "Till" []) []) :: [.bw (rl (Gb.mk K mg) p.1), .bw (rl (Gb.mk K mg) p.2.1), .bw (rl (Gb.mk K mg) p.2.2.1), .im (Py.r (Gb.mk K mg) p.2.2.2.1)]) (fun p => some (M.Till_init p.1 p.2.1 p.2.2.1 p.2.2.2.1)) (fun _ => .im (Py.r (Gb.mk K mg) ())) (fun r : TillD => [(0, (o_Till K mg r))])) := by
  refine fiu_mk T.F_Till_init sc_Till_init (fun _ => rfl) (by decide) (fun _ p hp => by rw [List.mem_singleton.mp hp]; exact Nat.succ_pos _) (fun cdv A outer s H E I R u p hr => ?_)
  obtain ⟨x_parents, x_vouchers, x_rules, x_back, ⟨⟩⟩ := p
  refine MB.eq (MB.p1 (MB.p1 (mb_fldN (ME.p1 (me_list T.g_list (me_bor 1))) (mp_pin 0 (v0 := u 0) (o1 := (oC (wI (Gb.mk K mg) "Till" []) []))) ⟨_, T.m_Till, T.cl_Till, T.n_Till_parents⟩ (fun _ x_self_parents => MB.p1 (MB.p1 (mb_fldN (ME.p1 (me_list T.g_list (me_bor 2))) (mp_pin 0 (v0 := u 0) (o1 := (oC (wI (Gb.mk K mg) "Till" ["parents"]) [(oF (rl (Gb.mk K mg) (x_self_parents : (List (Option Int)))))]))) ⟨_, T.m_Till, T.cl_Till, T.n_Till_vouchers⟩ (fun _ x_self_vouchers => MB.p1 (MB.p1 (mb_fldN (ME.p1 (me_list T.g_list (me_bor 3))) (mp_pin 0 (v0 := u 0) (o1 := (oC (wI (Gb.mk K mg) "Till" ["parents", "vouchers"]) [(oF (rl (Gb.mk K mg) (x_self_parents : (List (Option Int))))), (oF (rl (Gb.mk K mg) (x_self_vouchers : (List VoucherD))))]))) ⟨_, T.m_Till, T.cl_Till, T.n_Till_rules⟩ (fun _ x_self_rules => MB.p1 (MB.p1 (mb_fldN (me_var 4) (mp_pin 0 (v0 := u 0) (o1 := (oC (wI (Gb.mk K mg) "Till" ["parents", "vouchers", "rules"]) [(oF (rl (Gb.mk K mg) (x_self_parents : (List (Option Int))))), (oF (rl (Gb.mk K mg) (x_self_vouchers : (List VoucherD)))), (oF (rl (Gb.mk K mg) (x_self_rules : (List (T3 Str Int Int)))))]))) ⟨_, T.m_Till, T.cl_Till, T.n_Till_back⟩ (fun _ x_self_back => mb_endU (b := (TillD.mk x_self_parents x_self_vouchers x_self_rules x_self_back)) (.cons rfl .nil)))))))))))))) ?_
  delta M.Till_init
  rfl
theorem ok_Line_init (T : Tx K mg) : FnOk P w K mg base CX0 1 T.f_Line_init T.d_Line_init ["self", "kind", "price", "many", "special"] (spIO (Gb.mk K mg) (fun p : Int × Int × Int × (Option Int) × Unit => .ow (oC (wI (Gb.mk K mg) "Line" []) []) :: [.im (Py.r (Gb.mk K mg) p.1), .im (Py.r (Gb.mk K mg) p.2.1), .im (Py.r (Gb.mk K mg) p.2.2.1), .im (Py.r (Gb.mk K mg) p.2.2.2.1)]) (fun p => some (M.Line_init p.1 p.2.1 p.2.2.1 p.2.2.2.1)) (fun _ => .im (Py.r (Gb.mk K mg) ())) (fun r : LineD => [(0, (o_Line K mg r))])) := by
  refine fiu_mk T.F_Line_init sc_Line_init (fun _ => rfl) (by decide) (fun _ p hp => by rw [List.mem_singleton.mp hp]; exact Nat.succ_pos _) (fun cdv A outer s H E I R u p hr => ?_)
  obtain ⟨x_kind, x_price, x_many, x_special, ⟨⟩⟩ := p
  refine MB.eq (MB.p1 (MB.p1 (mb_fldN (me_var 1) (mp_pin 0 (v0 := u 0) (o1 := (oC (wI (Gb.mk K mg) "Line" []) []))) ⟨_, T.m_Line, T.cl_Line, T.n_Line_kind⟩ (fun _ x_self_kind => MB.p1 (MB.p1 (mb_fldN (me_var 2) (mp_pin 0 (v0 := u 0) (o1 := (oC (wI (Gb.mk K mg) "Line" ["kind"]) [(oI (Py.r (Gb.mk K mg) (x_self_kind : Int)))]))) ⟨_, T.m_Line, T.cl_Line, T.n_Line_price⟩ (fun _ x_self_price => MB.p1 (MB.p1 (mb_fldN (me_var 3) (mp_pin 0 (v0 := u 0) (o1 := (oC (wI (Gb.mk K mg) "Line" ["kind", "price"]) [(oI (Py.r (Gb.mk K mg) (x_self_kind : Int))), (oI (Py.r (Gb.mk K mg) (x_self_price : Int)))]))) ⟨_, T.m_Line, T.cl_Line, T.n_Line_many⟩ (fun _ x_self_many => MB.p1 (MB.p1 (mb_fldN (me_var 4) (mp_pin 0 (v0 := u 0) (o1 := (oC (wI (Gb.mk K mg) "Line" ["kind", "price", "many"]) [(oI (Py.r (Gb.mk K mg) (x_self_kind : Int))), (oI (Py.r (Gb.mk K mg) (x_self_price : Int))), (oI (Py.r (Gb.mk K mg) (x_self_many : Int)))]))) ⟨_, T.m_Line, T.cl_Line, T.n_Line_special⟩ (fun _ x_self_special => mb_endU (b := (LineD.mk x_self_kind x_self_price x_self_many x_self_special)) (.cons rfl .nil)))))))))))))) ?_
  delta M.Line_init
  rfl
theorem ok_Basket_init (T : Tx K mg) : FnOk P w K mg base CX0 1 T.f_Basket_init T.d_Basket_init ["self", "lines", "carriage", "member"] (spIO (Gb.mk K mg) (fun p : (List LineD) × Int × Bool × Unit => .ow (oC (wI (Gb.mk K mg) "Basket" []) []) :: [.bw (rl (Gb.mk K mg) p.1), .im (Py.r (Gb.mk K mg) p.2.1), .im (Py.r (Gb.mk K mg) p.2.2.1)]) (fun p => some (M.Basket_init p.1 p.2.1 p.2.2.1)) (fun _ => .im (Py.r (Gb.mk K mg) ())) (fun r : BasketD => [(0, (o_Basket K mg r))])) := by
  refine fiu_mk T.F_Basket_init sc_Basket_init (fun _ => rfl) (by decide) (fun _ p hp => by rw [List.mem_singleton.mp hp]; exact Nat.succ_pos _) (fun cdv A outer s H E I R u p hr => ?_)
  obtain ⟨x_lines, x_carriage, x_member, ⟨⟩⟩ := p
  refine MB.eq (MB.p1 (MB.p1 (mb_fldN (ME.p1 (me_list T.g_list (me_bor 1))) (mp_pin 0 (v0 := u 0) (o1 := (oC (wI (Gb.mk K mg) "Basket" []) []))) ⟨_, T.m_Basket, T.cl_Basket, T.n_Basket_lines⟩ (fun _ x_self_lines => MB.p1 (MB.p1 (mb_fldN (me_var 2) (mp_pin 0 (v0 := u 0) (o1 := (oC (wI (Gb.mk K mg) "Basket" ["lines"]) [(oF (rl (Gb.mk K mg) (x_self_lines : (List LineD))))]))) ⟨_, T.m_Basket, T.cl_Basket, T.n_Basket_carriage⟩ (fun _ x_self_carriage => MB.p1 (MB.p1 (mb_fldN (me_var 3) (mp_pin 0 (v0 := u 0) (o1 := (oC (wI (Gb.mk K mg) "Basket" ["lines", "carriage"]) [(oF (rl (Gb.mk K mg) (x_self_lines : (List LineD)))), (oI (Py.r (Gb.mk K mg) (x_self_carriage : Int)))]))) ⟨_, T.m_Basket, T.cl_Basket, T.n_Basket_member⟩ (fun _ x_self_member => mb_endU (b := (BasketD.mk x_self_lines x_self_carriage x_self_member)) (.cons rfl .nil))))))))))) ?_
  delta M.Basket_init
  rfl
theorem ok_law_basket_made (T : Tx K mg) : FnOk P w K mg base CX0 3 T.f_law_basket_made T.d_law_basket_made ["_law_told"] (spT (Gb.mk K mg) (fun p : (T3 (List (T4 Int Int Int (Option Int))) Int Bool) × Unit => [.im (Py.r (Gb.mk K mg) p.1)]) (fun p => some (M.law_basket_made p.1)) (fun r => .im (Py.r (Gb.mk K mg) (r : BasketD)))) := by
  refine fnx_mk T.F_law_basket_made sc_law_basket_made (fun _ => rfl) (fun _ => rfl) (by decide) (fun cdv A outer s H E I p hr => ?_)
  obtain ⟨x_law_told, ⟨⟩⟩ := p
  refine MB.eq (MB.p1 (mb_setLcP 1 (α := (T4 Int Int Int (Option Int))) (own := [("_law_kind", 2), ("_law_price", 3), ("_law_many", 4), ("_law_special", 5)]) sc_law_basket_made.nd  rfl (sw_true rfl rfl rfl (by decide +kernel)) (mi_lst (ms_im (ME.p1 (me_tix 0 (me_var 0) t3_0)))) (by first | (show blkC ["_law_told", "_law_lines", "_law_kind", "_law_price", "_law_many", "_law_special"] (defScope s_law_basket_made) _ _ = true; decide +kernel) | rfl) (by decide) (fun _ _ _ _ _ => (mg_t4 2 3 4 5 sc_law_basket_made.nd)) (fun _ _ _ _ _ (it3 : (T4 Int Int Int (Option Int))) => (me_frzO (fun _ => (z_Line _)) (me_make (or := fun r => o_Line K mg r) (ok_Line_init T) hr (by decide) T.mk_Line T.m_Line T.b_Line_init_5 .nil (MA.p1 (ma_cons (args := fun p : Int × Int × (Option Int) × Unit => [.im (Py.r (Gb.mk K mg) p.1), .im (Py.r (Gb.mk K mg) p.2.1), .im (Py.r (Gb.mk K mg) p.2.2.1)]) (me_var 2) co_im (fun _ => (MA.p1 (ma_cons (args := fun p : Int × (Option Int) × Unit => [.im (Py.r (Gb.mk K mg) p.1), .im (Py.r (Gb.mk K mg) p.2.1)]) (me_var 3) co_im (fun _ => (MA.p1 (ma_cons (args := fun p : (Option Int) × Unit => [.im (Py.r (Gb.mk K mg) p.1)]) (me_var 4) co_im (fun _ => (MA.p1 (ma_cons (args := fun p : Unit => []) (me_var 5) co_im (fun _ => ma_nl))))))))))))))) (fun x_law_lines => mb_retT (me_frzO (fun _ => (z_Basket _)) (me_make (or := fun r => o_Basket K mg r) (ok_Basket_init T) hr (by decide) T.mk_Basket T.m_Basket T.b_Basket_init_4 .nil (MA.p1 (ma_cons (args := fun p : Int × Bool × Unit => [.im (Py.r (Gb.mk K mg) p.1), .im (Py.r (Gb.mk K mg) p.2.1)]) (me_own 1) (co_bw lr_rd) (fun _ => (MA.p1 (ma_cons (args := fun p : Bool × Unit => [.im (Py.r (Gb.mk K mg) p.1)]) (ME.p1 (me_tix 1 (me_var 0) t3_1)) co_im (fun _ => (MA.p1 (ma_cons (args := fun p : Unit => []) (ME.p1 (me_tix 2 (me_var 0) t3_2)) co_im (fun _ => ma_nl)))))))))))))) ?_
  delta M.law_basket_made
  rfl
theorem ok_law_order (T : Tx K mg) : FnOk P w K mg base CX0 2 T.f_law_order T.d_law_order ["_law_cell_here", "_law_many"] (spT (Gb.mk K mg) (fun p : Int × Int × Unit => [.im (Py.r (Gb.mk K mg) p.1), .im (Py.r (Gb.mk K mg) p.2.1)]) (fun p => M.law_order p.1 p.2.1) (fun r => .fr (rl (Gb.mk K mg) (r : (List Int))))) := by
  refine fnx_mk T.F_law_order sc_law_order (fun _ => rfl) (fun _ => rfl) (by decide) (fun cdv A outer s H E I p hr => ?_)
  obtain ⟨x_law_cell_here, x_law_many, ⟨⟩⟩ := p
  refine MB.eq (mb_retT (me_lc (α := Int) (own := [("_law_j", 2)]) sc_law_order.nd (mi_rng1 T.g_range (me_modC (n := 9) (by decide) (me_call (ok_law_mixed T) hr (by decide) T.m_law_mixed T.k_law_mixed T.b_law_mixed_2 .nil (MA.p1 (ma_cons (args := fun p : Int × Unit => [.im (Py.r (Gb.mk K mg) p.1)]) (me_var 0) co_im (fun _ => (MA.p1 (ma_cons (args := fun p : Unit => []) me_int co_im (fun _ => ma_nl))))))) me_int)) (by first | (show blkC ["_law_cell_here", "_law_many", "_law_j"] (defScope s_law_order) _ _ = true; decide +kernel) | rfl) (by decide) (fun _ _ _ _ _ => (mg_name 2 sc_law_order.nd)) (fun _ _ _ _ _ (x_law_j : Int) => (ME.p2 (me_mod (me_call (ok_law_mixed T) hr (by decide) T.m_law_mixed T.k_law_mixed T.b_law_mixed_2 .nil (MA.p1 (ma_cons (args := fun p : Int × Unit => [.im (Py.r (Gb.mk K mg) p.1)]) (me_var 0) co_im (fun _ => (MA.p1 (ma_cons (args := fun p : Unit => []) (ME.p1 (ME.p1 (me_add me_int (me_var 2)))) co_im (fun _ => ma_nl))))))) (me_var 1)))))) ?_
  delta M.law_order
  rfl
theorem ok_piece_price (T : Tx K mg) : FnOk P w K mg base CX0 1 T.f_piece_price T.d_piece_price ["line", "member"] (spT (Gb.mk K mg) (fun p : LineD × Bool × Unit => [.im (Py.r (Gb.mk K mg) p.1), .im (Py.r (Gb.mk K mg) p.2.1)]) (fun p => M.piece_price p.1 p.2.1) (fun r => .im (Py.r (Gb.mk K mg) (r : Int)))) := by
  refine fnx_mk T.F_piece_price sc_piece_price (fun _ => rfl) (fun _ => rfl) (by decide) (fun cdv A outer s H E I p hr => ?_)
  obtain ⟨x_line, x_member, ⟨⟩⟩ := p
  refine MB.eq (MB.p1 (mb_ift (mt_w (mw_andP (mt_val (me_var 1)) (mw_and1 (mt_cm (MC.p1 (mc_ntN (ME.p1 (me_fld (pr := LineD.f_special) (me_var 0) (fun d I v h => rIns_fld 3 ⟨_, T.m_Line, T.cl_Line, T.n_Line_special⟩ h))))))))) (mb_retT (ME.p1 (me_get (ME.p1 (me_fld (pr := LineD.f_special) (me_var 0) (fun d I v h => rIns_fld 3 ⟨_, T.m_Line, T.cl_Line, T.n_Line_special⟩ h)))))) (mb_retT (ME.p1 (me_fld (pr := LineD.f_price) (me_var 0) (fun d I v h => rIns_fld 1 ⟨_, T.m_Line, T.cl_Line, T.n_Line_price⟩ h)))) hk_t)) ?_
  delta M.piece_price
  rfl
theorem ok_Standing_init (T : Tx K mg) : FnOk P w K mg base CX0 2 T.f_Standing_init T.d_Standing_init ["self", "basket"] (spIO (Gb.mk K mg) (fun p : BasketD × Unit => .ow (oC (wI (Gb.mk K mg) "Standing" []) []) :: [.im (Py.r (Gb.mk K mg) p.1)]) (fun p => M.Standing_init p.1) (fun _ => .im (Py.r (Gb.mk K mg) ())) (fun r : StandingD => [(0, (o_Standing K mg r))])) := by
  refine fiu_mk T.F_Standing_init sc_Standing_init (fun _ => rfl) (by decide) (fun _ p hp => by rw [List.mem_singleton.mp hp]; exact Nat.succ_pos _) (fun cdv A outer s H E I R u p hr => ?_)
  obtain ⟨x_basket, ⟨⟩⟩ := p
  refine MB.eq (MB.p1 (MB.p1 (mb_fldN (me_lst (α := Int) ml_nil) (mp_pin 0 (v0 := u 0) (o1 := (oC (wI (Gb.mk K mg) "Standing" []) []))) ⟨_, T.m_Standing, T.cl_Standing, T.n_Standing_owners⟩ (fun _ x_self_owners => MB.p1 (MB.p1 (mb_fldN (me_lst (α := Int) ml_nil) (mp_pin 0 (v0 := u 0) (o1 := (oC (wI (Gb.mk K mg) "Standing" ["owners"]) [(oF (rl (Gb.mk K mg) (x_self_owners : (List Int))))]))) ⟨_, T.m_Standing, T.cl_Standing, T.n_Standing_prices⟩ (fun _ x_self_prices => MB.p1 (MB.p1 (mb_fldN (ME.p1 (me_fld (pr := BasketD.f_carriage) (me_var 1) (fun d I v h => rIns_fld 1 ⟨_, T.m_Basket, T.cl_Basket, T.n_Basket_carriage⟩ h))) (mp_pin 0 (v0 := u 0) (o1 := (oC (wI (Gb.mk K mg) "Standing" ["owners", "prices"]) [(oF (rl (Gb.mk K mg) (x_self_owners : (List Int)))), (oF (rl (Gb.mk K mg) (x_self_prices : (List Int))))]))) ⟨_, T.m_Standing, T.cl_Standing, T.n_Standing_carriage⟩ (fun _ x_self_carriage => MB.p1 (MB.p1 (mb_fldN (ME.p1 (me_lcP (α := LineD) (own := [("line", 3)]) sc_Standing_init.nd (mi_lst (ms_im (ME.p1 (me_fld (pr := BasketD.f_lines) (me_var 1) (fun d I v h => rIns_fld 0 ⟨_, T.m_Basket, T.cl_Basket, T.n_Basket_lines⟩ h))))) (by first | (show blkC ["self", "basket", "at", "line", "piece"] (defScope s_Standing_init) _ _ = true; decide +kernel) | rfl) (by decide) (fun _ _ _ _ _ => (mg_name 3 sc_Standing_init.nd)) (fun _ _ _ _ _ (x_line : LineD) => me_bl))) (mp_pin 0 (v0 := u 0) (o1 := (oC (wI (Gb.mk K mg) "Standing" ["owners", "prices", "carriage"]) [(oF (rl (Gb.mk K mg) (x_self_owners : (List Int)))), (oF (rl (Gb.mk K mg) (x_self_prices : (List Int)))), (oI (Py.r (Gb.mk K mg) (x_self_carriage : Int)))]))) ⟨_, T.m_Standing, T.cl_Standing, T.n_Standing_marked⟩ (fun _ x_self_marked => mb_eqS (S' := [some (.ow (oP (u 0) (oC (wI (Gb.mk K mg) "Standing" ["owners", "prices", "carriage", "marked"]) [(oF (rl (Gb.mk K mg) (x_self_owners : (List Int)))), (oF (rl (Gb.mk K mg) (x_self_prices : (List Int)))), (oI (Py.r (Gb.mk K mg) (x_self_carriage : Int))), (oF (rl (Gb.mk K mg) (x_self_marked : (List Bool))))]))), some (.im (Py.r (Gb.mk K mg) (x_basket : BasketD))), none, none, none]) rfl (MB.p1 (mb_for (S' := (fun z3 : ((List Int) × (List Int) × Int × (List Bool)) => [some (.ow (oP (u 0) (oC (wI (Gb.mk K mg) "Standing" ["owners", "prices", "carriage", "marked"]) [(oF (rl (Gb.mk K mg) (z3.1 : (List Int)))), (oF (rl (Gb.mk K mg) (z3.2.1 : (List Int)))), (oI (Py.r (Gb.mk K mg) (z3.2.2.1 : Int))), (oF (rl (Gb.mk K mg) (z3.2.2.2 : (List Bool))))]))), some (.im (Py.r (Gb.mk K mg) (x_basket : BasketD))), none, none, none])) (s0 := (x_self_owners, x_self_prices, x_self_carriage, x_self_marked)) PassesOwn.never (MI.p1 (mi_enum T.g_enumerate (ms_im (ME.p1 (me_fld (pr := BasketD.f_lines) (me_var 1) (fun d I v h => rIns_fld 0 ⟨_, T.m_Basket, T.cl_Basket, T.n_Basket_lines⟩ h)))))) (mg_t2 2 3 sc_Standing_init.nd) (.keep (.keep (.keep (.keep (.keep .nil))))) (fun _ (z3 : ((List Int) × (List Int) × Int × (List Bool))) (it4 : (T2 Int LineD)) => mb_for (S' := (fun z5 : ((List Int) × (List Int) × Int × (List Bool)) => [some (.ow (oP (u 0) (oC (wI (Gb.mk K mg) "Standing" ["owners", "prices", "carriage", "marked"]) [(oF (rl (Gb.mk K mg) (z5.1 : (List Int)))), (oF (rl (Gb.mk K mg) (z5.2.1 : (List Int)))), (oI (Py.r (Gb.mk K mg) (z5.2.2.1 : Int))), (oF (rl (Gb.mk K mg) (z5.2.2.2 : (List Bool))))]))), some (.im (Py.r (Gb.mk K mg) (x_basket : BasketD))), some (.im (Py.r (Gb.mk K mg) (it4.x0 : Int))), some (.im (Py.r (Gb.mk K mg) (it4.x1 : LineD))), none])) (s0 := (z3.1, z3.2.1, z3.2.2.1, z3.2.2.2)) PassesOwn.never (MI.p1 (mi_rng1 T.g_range (ME.p1 (me_fld (pr := LineD.f_many) (me_var 3) (fun d I v h => rIns_fld 2 ⟨_, T.m_Line, T.cl_Line, T.n_Line_many⟩ h))))) (mg_name 4 sc_Standing_init.nd) (.keep (.keep (.keep (.keep (.keep .nil))))) (fun _ (z5 : ((List Int) × (List Int) × Int × (List Bool))) (x_piece : Int) => MB.p1 (MB.p1 (mb_appP (mp_fld (oj := fun _ => (oF (rl (Gb.mk K mg) (z5.1 : (List Int))))) 0 (mp_pin 0 (v0 := u 0) (o1 := (oC (wI (Gb.mk K mg) "Standing" ["owners", "prices", "carriage", "marked"]) [(oF (rl (Gb.mk K mg) (z5.1 : (List Int)))), (oF (rl (Gb.mk K mg) (z5.2.1 : (List Int)))), (oI (Py.r (Gb.mk K mg) (z5.2.2.1 : Int))), (oF (rl (Gb.mk K mg) (z5.2.2.2 : (List Bool))))]))) ⟨_, T.m_Standing, T.cl_Standing, T.n_Standing_owners⟩) (me_var 2) (fun _ x_self_owners => MB.p1 (mb_appP (mp_fld (oj := fun _ => (oF (rl (Gb.mk K mg) (z5.2.1 : (List Int))))) 1 (mp_pin 0 (v0 := u 0) (o1 := (oC (wI (Gb.mk K mg) "Standing" ["owners", "prices", "carriage", "marked"]) [(oF (rl (Gb.mk K mg) (x_self_owners : (List Int)))), (oF (rl (Gb.mk K mg) (z5.2.1 : (List Int)))), (oI (Py.r (Gb.mk K mg) (z5.2.2.1 : Int))), (oF (rl (Gb.mk K mg) (z5.2.2.2 : (List Bool))))]))) ⟨_, T.m_Standing, T.cl_Standing, T.n_Standing_prices⟩) (me_call (ok_piece_price T) hr (by decide) T.m_piece_price T.k_piece_price T.b_piece_price_2 .nil (MA.p1 (ma_cons (args := fun p : Bool × Unit => [.im (Py.r (Gb.mk K mg) p.1)]) (me_var 3) co_im (fun _ => (MA.p1 (ma_cons (args := fun p : Unit => []) (ME.p1 (me_fld (pr := BasketD.f_member) (me_var 1) (fun d I v h => rIns_fld 2 ⟨_, T.m_Basket, T.cl_Basket, T.n_Basket_member⟩ h))) co_im (fun _ => ma_nl))))))) (fun _ x_self_prices => mb_nil (b := (x_self_owners, x_self_prices, z5.2.2.1, z5.2.2.2)) kx_n (.keep (.keep (.keep (.keep (.drop .nil))))))))))) (fun (z7 : ((List Int) × (List Int) × Int × (List Bool))) => mb_nil (b := (z7.1, z7.2.1, z7.2.2.1, z7.2.2.2)) kx_n (.keep (.keep (.drop (.drop (.keep .nil))))))) (fun (z9 : ((List Int) × (List Int) × Int × (List Bool))) => mb_endU (b := (StandingD.mk z9.1 z9.2.1 z9.2.2.1 z9.2.2.2)) (.cons rfl .nil))))))))))))))))) ?_
  delta M.Standing_init
  rfl
theorem ok_never_beside (T : Tx K mg) : FnOk P w K mg base CX0 1 T.f_never_beside T.d_never_beside ["till", "ahead", "voucher"] (spT (Gb.mk K mg) (fun p : TillD × (List Int) × Int × Unit => [.im (Py.r (Gb.mk K mg) p.1), .bw (rl (Gb.mk K mg) p.2.1), .im (Py.r (Gb.mk K mg) p.2.2.1)]) (fun p => M.never_beside p.1 p.2.1 p.2.2.1) (fun r => .im (Py.r (Gb.mk K mg) (r : Bool)))) := by
  refine fnx_mk T.F_never_beside sc_never_beside (fun _ => rfl) (fun _ => rfl) (by decide) (fun cdv A outer s H E I p hr => ?_)
  obtain ⟨x_till, x_ahead, x_voucher, ⟨⟩⟩ := p
  refine MB.eq (MB.p1 (mb_forT (S' := (fun z2 : Unit => [some (.im (Py.r (Gb.mk K mg) (x_till : TillD))), some (.bw (rl (Gb.mk K mg) (x_ahead : (List Int)))), some (.im (Py.r (Gb.mk K mg) (x_voucher : Int))), none, none, none])) (s0 := ()) (mi_lst (ms_im (ME.p1 (me_fld (pr := TillD.f_rules) (me_var 0) (fun d I v h => rIns_fld 2 ⟨_, T.m_Till, T.cl_Till, T.n_Till_rules⟩ h))))) (mg_t3 3 4 5 sc_never_beside.nd) (.keep (.keep (.keep (.keep (.keep (.keep .nil)))))) (fun _ (z2 : Unit) (it3 : (T3 Str Int Int)) => MB.p1 (mb_ift (mt_w (mw_andP (mt_cm (MC.p1 (MC.p1 (mc_eq (α := Str) hr.units (Nat.le_of_ble_eq_true rfl) (me_var 3) me_str)))) (mw_and1 (mt_w (mw_orP (mt_w (mw_andP (mt_cm (MC.p1 (MC.p1 (mc_eq (α := Int) hr.units (Nat.le_of_ble_eq_true rfl) (me_var 4) (me_var 2))))) (mw_and1 (mt_cm (MC.p1 (MC.p1 (mc_in (α := Int) hr.units (Nat.le_of_ble_eq_true rfl) (me_var 5) (me_bor 1)))))))) (mw_or1 (mt_w (mw_andP (mt_cm (MC.p1 (MC.p1 (mc_eq (α := Int) hr.units (Nat.le_of_ble_eq_true rfl) (me_var 5) (me_var 2))))) (mw_and1 (mt_cm (MC.p1 (MC.p1 (mc_in (α := Int) hr.units (Nat.le_of_ble_eq_true rfl) (me_var 4) (me_bor 1)))))))))))))) (MB.p1 (mb_ret kr_c me_bl)) (mb_nil (b := ()) kx_c (.keep (.keep (.keep (.drop (.drop (.drop .nil))))))) (hk_c (by repeat (first | exact nn_rt | exact nn_ct | exact nn_bk | refine nn_ite ?_ ?_ | refine nn_bind fun _ => ?_))))) (fun (z4 : Unit) => mb_retT me_bl))) ?_
  delta M.never_beside
  rfl
theorem ok_comes_late (T : Tx K mg) : FnOk P w K mg base CX0 1 T.f_comes_late T.d_comes_late ["till", "ahead", "voucher"] (spT (Gb.mk K mg) (fun p : TillD × (List Int) × Int × Unit => [.im (Py.r (Gb.mk K mg) p.1), .bw (rl (Gb.mk K mg) p.2.1), .im (Py.r (Gb.mk K mg) p.2.2.1)]) (fun p => M.comes_late p.1 p.2.1 p.2.2.1) (fun r => .im (Py.r (Gb.mk K mg) (r : Bool)))) := by
  refine fnx_mk T.F_comes_late sc_comes_late (fun _ => rfl) (fun _ => rfl) (by decide) (fun cdv A outer s H E I p hr => ?_)
  obtain ⟨x_till, x_ahead, x_voucher, ⟨⟩⟩ := p
  refine MB.eq (MB.p1 (mb_forT (S' := (fun z2 : Unit => [some (.im (Py.r (Gb.mk K mg) (x_till : TillD))), some (.bw (rl (Gb.mk K mg) (x_ahead : (List Int)))), some (.im (Py.r (Gb.mk K mg) (x_voucher : Int))), none, none, none])) (s0 := ()) (mi_lst (ms_im (ME.p1 (me_fld (pr := TillD.f_rules) (me_var 0) (fun d I v h => rIns_fld 2 ⟨_, T.m_Till, T.cl_Till, T.n_Till_rules⟩ h))))) (mg_t3 3 4 5 sc_comes_late.nd) (.keep (.keep (.keep (.keep (.keep (.keep .nil)))))) (fun _ (z2 : Unit) (it3 : (T3 Str Int Int)) => MB.p1 (mb_ift (mt_w (mw_andP (mt_cm (MC.p1 (MC.p1 (mc_eq (α := Str) hr.units (Nat.le_of_ble_eq_true rfl) (me_var 3) me_str)))) (mw_andP (mt_cm (MC.p1 (MC.p1 (mc_eq (α := Int) hr.units (Nat.le_of_ble_eq_true rfl) (me_var 4) (me_var 2))))) (mw_and1 (mt_cm (MC.p1 (MC.p1 (mc_in (α := Int) hr.units (Nat.le_of_ble_eq_true rfl) (me_var 5) (me_bor 1))))))))) (MB.p1 (mb_ret kr_c me_bl)) (mb_nil (b := ()) kx_c (.keep (.keep (.keep (.drop (.drop (.drop .nil))))))) (hk_c (by repeat (first | exact nn_rt | exact nn_ct | exact nn_bk | refine nn_ite ?_ ?_ | refine nn_bind fun _ => ?_))))) (fun (z4 : Unit) => mb_retT me_bl))) ?_
  delta M.comes_late
  rfl
theorem ok_under (T : Tx K mg) : FnOk P w K mg base CX0 1 T.f_under T.d_under ["parents", "one", "other"] (spT (Gb.mk K mg) (fun p : (List (Option Int)) × (Option Int) × (Option Int) × Unit => [.bw (rl (Gb.mk K mg) p.1), .im (Py.r (Gb.mk K mg) p.2.1), .im (Py.r (Gb.mk K mg) p.2.2.1)]) (fun p => M.under p.1 p.2.1 p.2.2.1) (fun r => .im (Py.r (Gb.mk K mg) (r : Bool)))) := by
  refine fnx_mk T.F_under sc_under (fun _ => rfl) (fun _ => rfl) (by decide) (fun cdv A outer s H E I p hr => ?_)
  obtain ⟨x_parents, x_one, x_other, ⟨⟩⟩ := p
  refine MB.eq (mb_whileT 1000000 (S' := (fun z1 : (Option Int) => [some (.bw (rl (Gb.mk K mg) (x_parents : (List (Option Int))))), some (.im (Py.r (Gb.mk K mg) (z1 : (Option Int)))), some (.im (Py.r (Gb.mk K mg) (x_other : (Option Int))))])) (s0 := x_one) (.keep (.keep (.keep .nil))) (fun (z1 : (Option Int)) => (mt_w (mw_andP (mt_cm (MC.p1 (mc_ntN (me_var 1)))) (mw_and1 (mt_cm (MC.p1 (MC.p1 (mc_ne (α := (Option Int)) hr.units (Nat.le_of_ble_eq_true rfl) (me_var 1) (me_var 2))))))))) (fun (z1 : (Option Int)) => mb_set 1 sc_under.nd (ME.p1 (me_ix (me_bor 0) (ME.p1 (me_get (me_var 1))))) (fun x_one => mb_nil (b := x_one) kx_c (.keep (.keep (.keep .nil))))) (fun (z6 : (Option Int)) => mb_retT (me_cm (MC.p1 (mc_ntN (me_var 1)))))) ?_
  delta M.under
  rfl
theorem ok_about (T : Tx K mg) : FnOk P w K mg base CX0 2 T.f_about T.d_about ["voucher", "parents", "basket", "standing"] (spT (Gb.mk K mg) (fun p : VoucherD × (List (Option Int)) × BasketD × StandingD × Unit => [.im (Py.r (Gb.mk K mg) p.1), .bw (rl (Gb.mk K mg) p.2.1), .im (Py.r (Gb.mk K mg) p.2.2.1), .im (Py.r (Gb.mk K mg) p.2.2.2.1)]) (fun p => M.about p.1 p.2.1 p.2.2.1 p.2.2.2.1) (fun r => .fr (rl (Gb.mk K mg) (r : (List Int))))) := by
  refine fnx_mk T.F_about sc_about (fun _ => rfl) (fun _ => rfl) (by decide) (fun cdv A outer s H E I p hr => ?_)
  obtain ⟨x_voucher, x_parents, x_basket, x_standing, ⟨⟩⟩ := p
  refine MB.eq (MB.p1 (mb_set 4 sc_about.nd (ME.p1 (me_fld (pr := VoucherD.f_marks) (me_var 0) (fun d I v h => by cases d with | c_Off o => exact rIns_fld 0 ⟨_, T.m_Off, T.cl_Off, T.n_Off_marks⟩ h | c_Share o => exact rIns_fld 0 ⟨_, T.m_Share, T.cl_Share, T.n_Share_marks⟩ h | c_Carriage o => exact rIns_fld 0 ⟨_, T.m_Carriage, T.cl_Carriage, T.n_Carriage_marks⟩ h))) (fun x_marks => MB.p1 (mb_set 5 sc_about.nd (me_lst (α := Int) ml_nil) (fun x_found => MB.p1 (mb_forT (S' := (fun z3 : (List Int) => [some (.im (Py.r (Gb.mk K mg) (x_voucher : VoucherD))), some (.bw (rl (Gb.mk K mg) (x_parents : (List (Option Int))))), some (.im (Py.r (Gb.mk K mg) (x_basket : BasketD))), some (.im (Py.r (Gb.mk K mg) (x_standing : StandingD))), some (.im (Py.r (Gb.mk K mg) (x_marks : (Option MarksD)))), some (.fr (rl (Gb.mk K mg) (z3 : (List Int)))), none, none])) (s0 := x_found) (MI.p1 (mi_enum T.g_enumerate (ms_im (ME.p1 (me_fld (pr := StandingD.f_owners) (me_var 3) (fun d I v h => rIns_fld 0 ⟨_, T.m_Standing, T.cl_Standing, T.n_Standing_owners⟩ h)))))) (mg_t2 6 7 sc_about.nd) (.keep (.keep (.keep (.keep (.keep (.keep (.keep (.keep .nil)))))))) (fun _ (z3 : (List Int)) (it4 : (T2 Int Int)) => mb_ift (mt_w (mw_and (mt_cm (mc_ntN (me_fld (pr := MarksD.f_kind) (ME.p1 (me_get (me_var 4))) (fun d I v h => rIns_fld 0 ⟨_, T.m_Marks, T.cl_Marks, T.n_Marks_kind⟩ h)))) (mw_and1 (mt_not (mt_val (me_call (ok_under T) hr (by decide) T.m_under T.k_under T.b_under_3 .nil (MA.p1 (ma_cons (args := fun p : (Option Int) × (Option Int) × Unit => [.im (Py.r (Gb.mk K mg) p.1), .im (Py.r (Gb.mk K mg) p.2.1)]) (me_bor 1) (co_bw lr_rd) (fun _ => (ma_cons (args := fun p : (Option Int) × Unit => [.im (Py.r (Gb.mk K mg) p.1)]) (me_some (α := Int) (me_fld (pr := LineD.f_kind) (ME.p1 (ME.p1 (me_ix (ME.p1 (me_fld (pr := BasketD.f_lines) (me_var 2) (fun d I v h => rIns_fld 0 ⟨_, T.m_Basket, T.cl_Basket, T.n_Basket_lines⟩ h))) (me_var 7)))) (fun d I v h => rIns_fld 0 ⟨_, T.m_Line, T.cl_Line, T.n_Line_kind⟩ h))) co_im (fun _ => (ma_cons (args := fun p : Unit => []) (me_fld (pr := MarksD.f_kind) (ME.p1 (me_get (me_var 4))) (fun d I v h => rIns_fld 0 ⟨_, T.m_Marks, T.cl_Marks, T.n_Marks_kind⟩ h)) co_im (fun _ => ma_nl))))))))))))) (mb_cnt (b := z3) (.keep (.keep (.keep (.keep (.keep (.keep (.drop (.drop .nil))))))))) (mb_ift (mt_w (mw_and (mt_val (me_fld (pr := MarksD.f_lone) (ME.p1 (me_get (me_var 4))) (fun d I v h => rIns_fld 5 ⟨_, T.m_Marks, T.cl_Marks, T.n_Marks_lone⟩ h))) (mw_and1 (mt_val (ME.p1 (ME.p1 (me_ix (ME.p1 (me_fld (pr := StandingD.f_marked) (me_var 3) (fun d I v h => rIns_fld 3 ⟨_, T.m_Standing, T.cl_Standing, T.n_Standing_marked⟩ h))) (me_var 7)))))))) (mb_cnt (b := z3) (.keep (.keep (.keep (.keep (.keep (.keep (.drop (.drop .nil))))))))) (MB.p1 (mb_app 5 (me_var 6) (fun x_found => mb_nil (b := x_found) kx_c (.keep (.keep (.keep (.keep (.keep (.keep (.drop (.drop .nil))))))))))) (hk_c (by repeat (first | exact nn_rt | exact nn_ct | exact nn_bk | refine nn_ite ?_ ?_ | refine nn_bind fun _ => ?_)))) (hk_c (by repeat (first | exact nn_rt | exact nn_ct | exact nn_bk | refine nn_ite ?_ ?_ | refine nn_bind fun _ => ?_)))) (fun (z21 : (List Int)) => mb_retO 5 kr_t))))))) ?_
  delta M.about
  rfl
theorem ok_hindrance (T : Tx K mg) : FnOk P w K mg base CX0 3 T.f_hindrance T.d_hindrance ["voucher", "parents", "basket", "standing"] (spT (Gb.mk K mg) (fun p : VoucherD × (List (Option Int)) × BasketD × StandingD × Unit => [.im (Py.r (Gb.mk K mg) p.1), .bw (rl (Gb.mk K mg) p.2.1), .im (Py.r (Gb.mk K mg) p.2.2.1), .im (Py.r (Gb.mk K mg) p.2.2.2.1)]) (fun p => M.hindrance p.1 p.2.1 p.2.2.1 p.2.2.2.1) (fun r => .im (Py.r (Gb.mk K mg) (r : (Option Str))))) := by
  refine fnx_mk T.F_hindrance sc_hindrance (fun _ => rfl) (fun _ => rfl) (by decide) (fun cdv A outer s H E I p hr => ?_)
  obtain ⟨x_voucher, x_parents, x_basket, x_standing, ⟨⟩⟩ := p
  refine MB.eq (mb_ift (mt_w (mw_and (mt_val (me_fld (pr := MarksD.f_member) (ME.p1 (me_get (ME.p1 (me_fld (pr := VoucherD.f_marks) (me_var 0) (fun d I v h => by cases d with | c_Off o => exact rIns_fld 0 ⟨_, T.m_Off, T.cl_Off, T.n_Off_marks⟩ h | c_Share o => exact rIns_fld 0 ⟨_, T.m_Share, T.cl_Share, T.n_Share_marks⟩ h | c_Carriage o => exact rIns_fld 0 ⟨_, T.m_Carriage, T.cl_Carriage, T.n_Carriage_marks⟩ h))))) (fun d I v h => rIns_fld 3 ⟨_, T.m_Marks, T.cl_Marks, T.n_Marks_member⟩ h))) (mw_and1 (MT.p1 (mt_not (mt_val (ME.p1 (me_fld (pr := BasketD.f_member) (me_var 2) (fun d I v h => rIns_fld 2 ⟨_, T.m_Basket, T.cl_Basket, T.n_Basket_member⟩ h))))))))) (mb_retT (ME.p1 (me_some (α := Str) me_str))) (mb_set 4 sc_hindrance.nd (me_call (ok_about T) hr (by decide) T.m_about T.k_about T.b_about_4 .nil (MA.p1 (ma_cons (args := fun p : (List (Option Int)) × BasketD × StandingD × Unit => [.bw (rl (Gb.mk K mg) p.1), .im (Py.r (Gb.mk K mg) p.2.1), .im (Py.r (Gb.mk K mg) p.2.2.1)]) (me_var 0) co_im (fun _ => (MA.p1 (ma_cons (args := fun p : BasketD × StandingD × Unit => [.im (Py.r (Gb.mk K mg) p.1), .im (Py.r (Gb.mk K mg) p.2.1)]) (me_bor 1) (co_bw lr_rd) (fun _ => (MA.p1 (ma_cons (args := fun p : StandingD × Unit => [.im (Py.r (Gb.mk K mg) p.1)]) (me_var 2) co_im (fun _ => (MA.p1 (ma_cons (args := fun p : Unit => []) (me_var 3) co_im (fun _ => ma_nl))))))))))))) (fun x_pieces => MB.p1 (mb_ift (mt_cm (MC.p1 (MC.p1 (mc_eq (α := Int) hr.units (Nat.le_of_ble_eq_true rfl) (ME.p1 (me_len T.g_len (me_own 4))) me_int)))) (mb_retT (ME.p1 (me_some (α := Str) me_str))) (mb_ift (mt_viewF 4 rfl (mt_cm (mc_lt (me_sum T.g_sum (ME.p1 (me_lc (α := Int) (own := [("piece", 5)]) sc_hindrance.nd (mi_lst (ms_im (me_var 4))) (by first | (show blkC ["voucher", "parents", "basket", "standing", "pieces", "piece"] (defScope s_hindrance) _ _ = true; decide +kernel) | rfl) (by decide) (fun _ _ _ _ _ => (mg_name 5 sc_hindrance.nd)) (fun _ _ _ _ _ (x_piece : Int) => (ME.p1 (ME.p1 (me_ix (ME.p1 (me_fld (pr := StandingD.f_prices) (me_var 3) (fun d I v h => rIns_fld 1 ⟨_, T.m_Standing, T.cl_Standing, T.n_Standing_prices⟩ h))) (me_var 5)))))))) (me_fld (pr := MarksD.f_needs) (ME.p1 (me_get (ME.p1 (me_fld (pr := VoucherD.f_marks) (me_var 0) (fun d I v h => by cases d with | c_Off o => exact rIns_fld 0 ⟨_, T.m_Off, T.cl_Off, T.n_Off_marks⟩ h | c_Share o => exact rIns_fld 0 ⟨_, T.m_Share, T.cl_Share, T.n_Share_marks⟩ h | c_Carriage o => exact rIns_fld 0 ⟨_, T.m_Carriage, T.cl_Carriage, T.n_Carriage_marks⟩ h))))) (fun d I v h => rIns_fld 1 ⟨_, T.m_Marks, T.cl_Marks, T.n_Marks_needs⟩ h))))) (mb_eqS (S' := [some (.im (Py.r (Gb.mk K mg) (x_voucher : VoucherD))), some (.bw (rl (Gb.mk K mg) (x_parents : (List (Option Int))))), some (.im (Py.r (Gb.mk K mg) (x_basket : BasketD))), some (.im (Py.r (Gb.mk K mg) (x_standing : StandingD))), some (.fr (rl (Gb.mk K mg) (x_pieces : (List Int)))), none]) rfl (mb_retT (ME.p1 (me_some (α := Str) me_str)))) (mb_eqS (S' := [some (.im (Py.r (Gb.mk K mg) (x_voucher : VoucherD))), some (.bw (rl (Gb.mk K mg) (x_parents : (List (Option Int))))), some (.im (Py.r (Gb.mk K mg) (x_basket : BasketD))), some (.im (Py.r (Gb.mk K mg) (x_standing : StandingD))), some (.fr (rl (Gb.mk K mg) (x_pieces : (List Int)))), none]) rfl (mb_retT me_non)) hk_t) hk_t))) hk_t) ?_
  delta M.hindrance
  rfl
theorem ok_word_of (T : Tx K mg) : FnOk P w K mg base CX0 4 T.f_word_of T.d_word_of ["till", "basket", "hand", "ahead", "voucher", "standing"] (spT (Gb.mk K mg) (fun p : TillD × BasketD × (List Int) × (List Int) × Int × StandingD × Unit => [.im (Py.r (Gb.mk K mg) p.1), .im (Py.r (Gb.mk K mg) p.2.1), .bw (rl (Gb.mk K mg) p.2.2.1), .bw (rl (Gb.mk K mg) p.2.2.2.1), .im (Py.r (Gb.mk K mg) p.2.2.2.2.1), .im (Py.r (Gb.mk K mg) p.2.2.2.2.2.1)]) (fun p => M.word_of p.1 p.2.1 p.2.2.1 p.2.2.2.1 p.2.2.2.2.1 p.2.2.2.2.2.1) (fun r => .im (Py.r (Gb.mk K mg) (r : (Option Str))))) := by
  refine fnx_mk T.F_word_of sc_word_of (fun _ => rfl) (fun _ => rfl) (by decide) (fun cdv A outer s H E I p hr => ?_)
  obtain ⟨x_till, x_basket, x_hand, x_ahead, x_voucher, x_standing, ⟨⟩⟩ := p
  refine MB.eq (mb_set 6 sc_word_of.nd (ME.p1 (ME.p1 (me_ix (ME.p1 (me_fld (pr := TillD.f_vouchers) (me_var 0) (fun d I v h => rIns_fld 1 ⟨_, T.m_Till, T.cl_Till, T.n_Till_vouchers⟩ h))) (me_var 4)))) (fun x_used => mb_ift (mt_cm (MC.p1 (mc_ge (ME.p1 (ME.p1 (me_cnt (me_bor 3) (me_var 4)))) (ME.p1 (ME.p1 (me_ix (me_bor 2) (me_var 4))))))) (mb_retT (ME.p1 (me_some (α := Str) me_str))) (mb_ift (mt_w (mw_and (mt_val (me_fld (pr := MarksD.f_once) (ME.p1 (me_get (ME.p1 (me_fld (pr := VoucherD.f_marks) (me_var 6) (fun d I v h => by cases d with | c_Off o => exact rIns_fld 0 ⟨_, T.m_Off, T.cl_Off, T.n_Off_marks⟩ h | c_Share o => exact rIns_fld 0 ⟨_, T.m_Share, T.cl_Share, T.n_Share_marks⟩ h | c_Carriage o => exact rIns_fld 0 ⟨_, T.m_Carriage, T.cl_Carriage, T.n_Carriage_marks⟩ h))))) (fun d I v h => rIns_fld 4 ⟨_, T.m_Marks, T.cl_Marks, T.n_Marks_once⟩ h))) (mw_and1 (mt_cm (MC.p1 (MC.p1 (mc_in (α := Int) hr.units (Nat.le_of_ble_eq_true rfl) (me_var 4) (me_bor 3)))))))) (mb_retT (ME.p1 (me_some (α := Str) me_str))) (mb_ift (mt_val (me_call (ok_never_beside T) hr (by decide) T.m_never_beside T.k_never_beside T.b_never_beside_3 .nil (MA.p1 (ma_cons (args := fun p : (List Int) × Int × Unit => [.bw (rl (Gb.mk K mg) p.1), .im (Py.r (Gb.mk K mg) p.2.1)]) (me_var 0) co_im (fun _ => (MA.p1 (ma_cons (args := fun p : Int × Unit => [.im (Py.r (Gb.mk K mg) p.1)]) (me_bor 3) (co_bw lr_rd) (fun _ => (MA.p1 (ma_cons (args := fun p : Unit => []) (me_var 4) co_im (fun _ => ma_nl))))))))))) (mb_eqS (S' := [some (.im (Py.r (Gb.mk K mg) (x_till : TillD))), some (.im (Py.r (Gb.mk K mg) (x_basket : BasketD))), some (.bw (rl (Gb.mk K mg) (x_hand : (List Int)))), some (.bw (rl (Gb.mk K mg) (x_ahead : (List Int)))), some (.im (Py.r (Gb.mk K mg) (x_voucher : Int))), some (.im (Py.r (Gb.mk K mg) (x_standing : StandingD))), some (.im (Py.r (Gb.mk K mg) (x_used : VoucherD)))]) rfl (mb_retT (ME.p1 (me_some (α := Str) me_str)))) (mb_eqS (S' := [some (.im (Py.r (Gb.mk K mg) (x_till : TillD))), some (.im (Py.r (Gb.mk K mg) (x_basket : BasketD))), some (.bw (rl (Gb.mk K mg) (x_hand : (List Int)))), some (.bw (rl (Gb.mk K mg) (x_ahead : (List Int)))), some (.im (Py.r (Gb.mk K mg) (x_voucher : Int))), some (.im (Py.r (Gb.mk K mg) (x_standing : StandingD))), some (.im (Py.r (Gb.mk K mg) (x_used : VoucherD)))]) rfl (mb_ift (mt_val (me_call (ok_comes_late T) hr (by decide) T.m_comes_late T.k_comes_late T.b_comes_late_3 .nil (MA.p1 (ma_cons (args := fun p : (List Int) × Int × Unit => [.bw (rl (Gb.mk K mg) p.1), .im (Py.r (Gb.mk K mg) p.2.1)]) (me_var 0) co_im (fun _ => (MA.p1 (ma_cons (args := fun p : Int × Unit => [.im (Py.r (Gb.mk K mg) p.1)]) (me_bor 3) (co_bw lr_rd) (fun _ => (MA.p1 (ma_cons (args := fun p : Unit => []) (me_var 4) co_im (fun _ => ma_nl))))))))))) (mb_retT (ME.p1 (me_some (α := Str) me_str))) (mb_retT (me_call (ok_hindrance T) hr (by decide) T.m_hindrance T.k_hindrance T.b_hindrance_4 .nil (MA.p1 (ma_cons (args := fun p : (List (Option Int)) × BasketD × StandingD × Unit => [.bw (rl (Gb.mk K mg) p.1), .im (Py.r (Gb.mk K mg) p.2.1), .im (Py.r (Gb.mk K mg) p.2.2.1)]) (me_var 6) co_im (fun _ => (MA.p1 (ma_cons (args := fun p : BasketD × StandingD × Unit => [.im (Py.r (Gb.mk K mg) p.1), .im (Py.r (Gb.mk K mg) p.2.1)]) (ME.p1 (me_fld (pr := TillD.f_parents) (me_var 0) (fun d I v h => rIns_fld 0 ⟨_, T.m_Till, T.cl_Till, T.n_Till_parents⟩ h))) (co_bw lr_im) (fun _ => (MA.p1 (ma_cons (args := fun p : StandingD × Unit => [.im (Py.r (Gb.mk K mg) p.1)]) (me_var 1) co_im (fun _ => (MA.p1 (ma_cons (args := fun p : Unit => []) (me_var 5) co_im (fun _ => ma_nl)))))))))))))) hk_t)) hk_t) hk_t) hk_t)) ?_
  delta M.word_of
  rfl
theorem ok_dealt (T : Tx K mg) : FnOk P w K mg base CX0 1 T.f_dealt T.d_dealt ["cut", "weights"] (spT (Gb.mk K mg) (fun p : Int × (List Int) × Unit => [.im (Py.r (Gb.mk K mg) p.1), .bw (rl (Gb.mk K mg) p.2.1)]) (fun p => M.dealt p.1 p.2.1) (fun r => .fr (rl (Gb.mk K mg) (r : (List Int))))) := by
  refine fnx_mk T.F_dealt sc_dealt (fun _ => rfl) (fun _ => rfl) (by decide) (fun cdv A outer s H E I p hr => ?_)
  obtain ⟨x_cut, x_weights, ⟨⟩⟩ := p
  refine MB.eq (MB.p1 (mb_set 2 sc_dealt.nd (ME.p1 (me_sum T.g_sum (me_bor 1))) (fun x_whole => MB.p1 (mb_set 3 sc_dealt.nd (me_lst (α := Int) ml_nil) (fun x_parts => MB.p1 (mb_set 4 sc_dealt.nd me_int (fun x_upto => MB.p1 (mb_set 5 sc_dealt.nd me_int (fun x_given_out => mb_eqS (S' := [some (.im (Py.r (Gb.mk K mg) (x_cut : Int))), some (.bw (rl (Gb.mk K mg) (x_weights : (List Int)))), some (.im (Py.r (Gb.mk K mg) (x_whole : Int))), some (.fr (rl (Gb.mk K mg) (x_parts : (List Int)))), some (.im (Py.r (Gb.mk K mg) (x_upto : Int))), some (.im (Py.r (Gb.mk K mg) (x_given_out : Int))), none, none]) rfl (MB.p1 (mb_for (S' := (fun z1 : (Int × (List Int) × Int) => [some (.im (Py.r (Gb.mk K mg) (x_cut : Int))), some (.bw (rl (Gb.mk K mg) (x_weights : (List Int)))), some (.im (Py.r (Gb.mk K mg) (x_whole : Int))), some (.fr (rl (Gb.mk K mg) (z1.2.1 : (List Int)))), some (.im (Py.r (Gb.mk K mg) (z1.1 : Int))), some (.im (Py.r (Gb.mk K mg) (z1.2.2 : Int))), none, none])) (s0 := (x_upto, x_parts, x_given_out)) PassesOwn.never (mi_lst (ms_bw 1)) (mg_name 6 sc_dealt.nd) (.keep (.keep (.keep (.keep (.keep (.keep (.keep (.keep .nil)))))))) (fun _ (z1 : (Int × (List Int) × Int)) (x_weight : Int) => MB.p1 (mb_aug 4 ip_add sc_dealt.nd (me_var 6) (fun x_upto => mb_set 7 sc_dealt.nd (ME.p1 (me_if (mt_cm (MC.p1 (MC.p1 (mc_gt (me_var 2) me_int)))) (ME.p2 (me_div (ME.p1 (ME.p1 (me_mul (me_var 0) (me_var 4)))) (me_var 2))) me_int)) (fun x_share => MB.p1 (mb_app 3 (ME.p1 (ME.p1 (me_sub (me_var 7) (me_var 5)))) (fun x_parts => mb_eqS (S' := [some (.im (Py.r (Gb.mk K mg) (x_cut : Int))), some (.bw (rl (Gb.mk K mg) (x_weights : (List Int)))), some (.im (Py.r (Gb.mk K mg) (x_whole : Int))), some (.fr (rl (Gb.mk K mg) (x_parts : (List Int)))), some (.im (Py.r (Gb.mk K mg) (x_upto : Int))), some (.im (Py.r (Gb.mk K mg) (z1.2.2 : Int))), some (.im (Py.r (Gb.mk K mg) (x_weight : Int))), some (.im (Py.r (Gb.mk K mg) (x_share : Int)))]) rfl (MB.p1 (mb_set 5 sc_dealt.nd (me_var 7) (fun x_given_out => mb_nil (b := (x_upto, x_parts, x_given_out)) kx_n (.keep (.keep (.keep (.keep (.keep (.keep (.drop (.drop .nil))))))))))))))))) (fun (z4 : (Int × (List Int) × Int)) => mb_retO 3 kr_t)))))))))))) ?_
  delta M.dealt
  rfl
theorem ok_Off_wanted (T : Tx K mg) : FnOk P w K mg base CX0 2 T.f_Off_wanted T.d_Off_wanted ["self", "prices", "owners"] (spT (Gb.mk K mg) (fun p : OffD × (List Int) × (List Int) × Unit => [.im (Py.r (Gb.mk K mg) p.1), .bw (rl (Gb.mk K mg) p.2.1), .bw (rl (Gb.mk K mg) p.2.2.1)]) (fun p => M.Off_wanted p.1 p.2.1 p.2.2.1) (fun r => .fr (rl (Gb.mk K mg) (r : (List Int))))) := by
  refine fnx_mk T.F_Off_wanted sc_Off_wanted (fun _ => rfl) (fun _ => rfl) (by decide) (fun cdv A outer s H E I p hr => ?_)
  obtain ⟨x_self, x_prices, x_owners, ⟨⟩⟩ := p
  refine MB.eq (mb_retT (me_call (ok_dealt T) hr (by decide) T.m_dealt T.k_dealt T.b_dealt_2 .nil (MA.p1 (ma_cons (args := fun p : (List Int) × Unit => [.bw (rl (Gb.mk K mg) p.1)]) (ME.p1 (ME.p1 (me_min T.g_min (ME.p1 (me_fld (pr := OffD.f_amount) (me_var 0) (fun d I v h => rIns_fld 1 ⟨_, T.m_Off, T.cl_Off, T.n_Off_amount⟩ h))) (ME.p1 (me_sum T.g_sum (me_bor 1)))))) co_im (fun _ => (MA.p1 (ma_cons (args := fun p : Unit => []) (me_bor 1) (co_bw lr_rd) (fun _ => ma_nl)))))))) ?_
  delta M.Off_wanted
  rfl
theorem ok_Share_wanted (T : Tx K mg) : FnOk P w K mg base CX0 2 T.f_Share_wanted T.d_Share_wanted ["self", "prices", "owners"] (spT (Gb.mk K mg) (fun p : ShareD × (List Int) × (List Int) × Unit => [.im (Py.r (Gb.mk K mg) p.1), .bw (rl (Gb.mk K mg) p.2.1), .bw (rl (Gb.mk K mg) p.2.2.1)]) (fun p => M.Share_wanted p.1 p.2.1 p.2.2.1) (fun r => .fr (rl (Gb.mk K mg) (r : (List Int))))) := by
  refine fnx_mk T.F_Share_wanted sc_Share_wanted (fun _ => rfl) (fun _ => rfl) (by decide) (fun cdv A outer s H E I p hr => ?_)
  obtain ⟨x_self, x_prices, x_owners, ⟨⟩⟩ := p
  refine MB.eq (MB.p1 (mb_ift (MT.p1 (mt_not (mt_val (ME.p1 (me_fld (pr := ShareD.f_by_line) (me_var 0) (fun d I v h => rIns_fld 2 ⟨_, T.m_Share, T.cl_Share, T.n_Share_by_line⟩ h)))))) (mb_retT (me_call (ok_dealt T) hr (by decide) T.m_dealt T.k_dealt T.b_dealt_2 .nil (ma_cons (args := fun p : (List Int) × Unit => [.bw (rl (Gb.mk K mg) p.1)]) (me_divC (n := 1000) (by decide) (ME.p1 (ME.p1 (me_mul (ME.p1 (me_sum T.g_sum (me_bor 1))) (ME.p1 (me_fld (pr := ShareD.f_share) (me_var 0) (fun d I v h => rIns_fld 1 ⟨_, T.m_Share, T.cl_Share, T.n_Share_share⟩ h)))))) me_int) co_im (fun _ => (MA.p1 (ma_cons (args := fun p : Unit => []) (me_bor 1) (co_bw lr_rd) (fun _ => ma_nl))))))) (mb_set 3 sc_Share_wanted.nd (ME.p1 (ME.p1 (me_rep (me_lst (α := Int) (ML.p1 (ML.p1 (ml_cons me_int ml_nil)))) (ME.p1 (me_len T.g_len (me_bor 1)))))) (fun x_told => mb_for (S' := (fun z3 : (List Int) => [some (.im (Py.r (Gb.mk K mg) (x_self : ShareD))), some (.bw (rl (Gb.mk K mg) (x_prices : (List Int)))), some (.bw (rl (Gb.mk K mg) (x_owners : (List Int)))), some (.fr (rl (Gb.mk K mg) (z3 : (List Int)))), none, none, none, none, none])) (s0 := x_told) PassesOwn.never (mi_lst (ms_im (me_frz (ME.p1 (me_sortSet T.g_sorted T.g_set (me_bor 2)))))) (mg_name 4 sc_Share_wanted.nd) (.keep (.keep (.keep (.keep (.keep (.keep (.keep (.keep (.keep .nil))))))))) (fun _ (z3 : (List Int)) (x_line : Int) => mb_setLcF 5 (α := Int) (own := [("at", 7)]) sc_Share_wanted.nd  rfl (sw_true rfl rfl rfl (by decide +kernel)) (MI.p1 (mi_rng1 T.g_range (ME.p1 (me_len T.g_len (me_bor 1))))) (by first | (show blkC ["self", "prices", "owners", "told", "line", "places", "own", "at", "part"] (defScope s_Share_wanted) _ _ = true; decide +kernel) | rfl) (by decide) (fun _ _ _ _ _ => (mg_name 7 sc_Share_wanted.nd)) (fun _ _ _ _ _ (x_at : Int) => mts_one (mt_cm (MC.p2 (mc_eq (α := Int) hr.units (Nat.le_of_ble_eq_true rfl) (ME.p1 (ME.p1 (me_ix (me_bor 2) (me_var 7)))) (me_var 4))))) (fun _ _ _ _ _ (x_at : Int) => (me_var 7)) (fun x_places => mb_frz 5 rfl (MB.p1 (mb_setLc 6 (α := Int) (own := [("at", 7)]) sc_Share_wanted.nd  rfl (sw_true rfl rfl rfl (by decide +kernel)) (mi_lst (ms_im (me_var 5))) (by first | (show blkC ["self", "prices", "owners", "told", "line", "places", "own", "at", "part"] (defScope s_Share_wanted) _ _ = true; decide +kernel) | rfl) (by decide) (fun _ _ _ _ _ => (mg_name 7 sc_Share_wanted.nd)) (fun _ _ _ _ _ (x_at : Int) => (ME.p1 (ME.p1 (me_ix (me_bor 1) (me_var 7))))) (fun x_own => mb_eqS (S' := [some (.im (Py.r (Gb.mk K mg) (x_self : ShareD))), some (.bw (rl (Gb.mk K mg) (x_prices : (List Int)))), some (.bw (rl (Gb.mk K mg) (x_owners : (List Int)))), some (.fr (rl (Gb.mk K mg) (z3 : (List Int)))), some (.im (Py.r (Gb.mk K mg) (x_line : Int))), some (.im (Py.r (Gb.mk K mg) (x_places : (List Int)))), some (.fr (rl (Gb.mk K mg) (x_own : (List Int)))), none, none]) rfl (mb_for (S' := (fun z17 : (List Int) => [some (.im (Py.r (Gb.mk K mg) (x_self : ShareD))), some (.bw (rl (Gb.mk K mg) (x_prices : (List Int)))), some (.bw (rl (Gb.mk K mg) (x_owners : (List Int)))), some (.fr (rl (Gb.mk K mg) (z17 : (List Int)))), some (.im (Py.r (Gb.mk K mg) (x_line : Int))), some (.im (Py.r (Gb.mk K mg) (x_places : (List Int)))), some (.fr (rl (Gb.mk K mg) (x_own : (List Int)))), none, none])) (s0 := z3) PassesOwn.never (MI.p1 (mi_zip T.g_zip (ms_im (me_var 5)) (ms_im (me_frz (me_call (ok_dealt T) hr (by decide) T.m_dealt T.k_dealt T.b_dealt_2 .nil (ma_cons (args := fun p : (List Int) × Unit => [.bw (rl (Gb.mk K mg) p.1)]) (me_divC (n := 1000) (by decide) (ME.p1 (ME.p1 (me_mul (ME.p1 (me_sum T.g_sum (me_own 6))) (ME.p1 (me_fld (pr := ShareD.f_share) (me_var 0) (fun d I v h => rIns_fld 1 ⟨_, T.m_Share, T.cl_Share, T.n_Share_share⟩ h)))))) me_int) co_im (fun _ => (MA.p1 (ma_cons (args := fun p : Unit => []) (me_own 6) (co_bw lr_rd) (fun _ => ma_nl)))))))))) (mg_t2 7 8 sc_Share_wanted.nd) (.keep (.keep (.keep (.keep (.keep (.keep (.keep (.keep (.keep .nil))))))))) (fun _ (z17 : (List Int)) (it18 : (T2 Int Int)) => MB.p1 (MB.p1 (mb_seti 3 (me_var 8) (me_var 7) (fun x_told => mb_nil (b := x_told) kx_n (.keep (.keep (.keep (.keep (.keep (.keep (.keep (.drop (.drop .nil))))))))))))) (fun (z19 : (List Int)) => mb_nil (b := z19) kx_n (.keep (.keep (.keep (.keep (.drop (.drop (.drop (.keep (.keep .nil)))))))))))))))) (fun (z22 : (List Int)) => mb_retO 3 kr_t))) hk_t)) ?_
  delta M.Share_wanted
  rfl
theorem ok_Voucher_wanted (T : Tx K mg) : FnOk P w K mg base CX0 1 T.f_Voucher_wanted T.d_Voucher_wanted ["self", "prices", "owners"] (spT (Gb.mk K mg) (fun p : CarriageD × (List Int) × (List Int) × Unit => [.im (Py.r (Gb.mk K mg) p.1), .bw (rl (Gb.mk K mg) p.2.1), .bw (rl (Gb.mk K mg) p.2.2.1)]) (fun p => M.Voucher_wanted p.1 p.2.1 p.2.2.1) (fun r => .fr (rl (Gb.mk K mg) (r : (List Int))))) := by
  refine fnx_mk T.F_Voucher_wanted sc_Voucher_wanted (fun _ => rfl) (fun _ => rfl) (by decide) (fun cdv A outer s H E I p hr => ?_)
  obtain ⟨x_self, x_prices, x_owners, ⟨⟩⟩ := p
  refine MB.eq (mb_retT (ME.p1 (ME.p1 (me_rep (me_lst (α := Int) (ML.p1 (ML.p1 (ml_cons me_int ml_nil)))) (ME.p1 (me_len T.g_len (me_bor 1))))))) ?_
  delta M.Voucher_wanted
  rfl
theorem ok_Voucher_wanted_carriage (T : Tx K mg) : FnOk P w K mg base CX0 1 T.f_Voucher_wanted_carriage T.d_Voucher_wanted_carriage ["self", "carriage"] (spT (Gb.mk K mg) (fun p : OffD × Int × Unit => [.im (Py.r (Gb.mk K mg) p.1), .im (Py.r (Gb.mk K mg) p.2.1)]) (fun p => some (M.Voucher_wanted_carriage p.1 p.2.1)) (fun r => .im (Py.r (Gb.mk K mg) (r : Int)))) := by
  refine fnx_mk T.F_Voucher_wanted_carriage sc_Voucher_wanted_carriage (fun _ => rfl) (fun _ => rfl) (by decide) (fun cdv A outer s H E I p hr => ?_)
  obtain ⟨x_self, x_carriage, ⟨⟩⟩ := p
  refine MB.eq (mb_retT me_int) ?_
  delta M.Voucher_wanted_carriage
  rfl
theorem ok_Voucher_wanted_carriage_1 (T : Tx K mg) : FnOk P w K mg base CX0 1 T.f_Voucher_wanted_carriage T.d_Voucher_wanted_carriage ["self", "carriage"] (spT (Gb.mk K mg) (fun p : ShareD × Int × Unit => [.im (Py.r (Gb.mk K mg) p.1), .im (Py.r (Gb.mk K mg) p.2.1)]) (fun p => some (M.Voucher_wanted_carriage_1 p.1 p.2.1)) (fun r => .im (Py.r (Gb.mk K mg) (r : Int)))) := by
  refine fnx_mk T.F_Voucher_wanted_carriage sc_Voucher_wanted_carriage (fun _ => rfl) (fun _ => rfl) (by decide) (fun cdv A outer s H E I p hr => ?_)
  obtain ⟨x_self, x_carriage, ⟨⟩⟩ := p
  refine MB.eq (mb_retT me_int) ?_
  delta M.Voucher_wanted_carriage_1
  rfl
theorem ok_Carriage_wanted_carriage (T : Tx K mg) : FnOk P w K mg base CX0 1 T.f_Carriage_wanted_carriage T.d_Carriage_wanted_carriage ["self", "carriage"] (spT (Gb.mk K mg) (fun p : CarriageD × Int × Unit => [.im (Py.r (Gb.mk K mg) p.1), .im (Py.r (Gb.mk K mg) p.2.1)]) (fun p => some (M.Carriage_wanted_carriage p.1 p.2.1)) (fun r => .im (Py.r (Gb.mk K mg) (r : Int)))) := by
  refine fnx_mk T.F_Carriage_wanted_carriage sc_Carriage_wanted_carriage (fun _ => rfl) (fun _ => rfl) (by decide) (fun cdv A outer s H E I p hr => ?_)
  obtain ⟨x_self, x_carriage, ⟨⟩⟩ := p
  refine MB.eq (mb_retT (me_var 1)) ?_
  delta M.Carriage_wanted_carriage
  rfl
theorem ok_cuts (T : Tx K mg) : FnOk P w K mg base CX0 3 T.f_cuts T.d_cuts ["voucher", "parents", "basket", "standing"] (spT (Gb.mk K mg) (fun p : VoucherD × (List (Option Int)) × BasketD × StandingD × Unit => [.im (Py.r (Gb.mk K mg) p.1), .bw (rl (Gb.mk K mg) p.2.1), .im (Py.r (Gb.mk K mg) p.2.2.1), .im (Py.r (Gb.mk K mg) p.2.2.2.1)]) (fun p => M.cuts p.1 p.2.1 p.2.2.1 p.2.2.2.1) (fun r : (T2 (List Int) Int) => .ow (oC wT [(oF (rl (Gb.mk K mg) (r.x0 : (List Int)))), (oI (Py.r (Gb.mk K mg) (r.x1 : Int)))]))) := by
  refine fnx_mk T.F_cuts sc_cuts (fun _ => rfl) (fun _ => rfl) (by decide) (fun cdv A outer s H E I p hr => ?_)
  obtain ⟨x_voucher, x_parents, x_basket, x_standing, ⟨⟩⟩ := p
  refine MB.eq (mb_set 4 sc_cuts.nd (me_call (ok_about T) hr (by decide) T.m_about T.k_about T.b_about_4 .nil (MA.p1 (ma_cons (args := fun p : (List (Option Int)) × BasketD × StandingD × Unit => [.bw (rl (Gb.mk K mg) p.1), .im (Py.r (Gb.mk K mg) p.2.1), .im (Py.r (Gb.mk K mg) p.2.2.1)]) (me_var 0) co_im (fun _ => (MA.p1 (ma_cons (args := fun p : BasketD × StandingD × Unit => [.im (Py.r (Gb.mk K mg) p.1), .im (Py.r (Gb.mk K mg) p.2.1)]) (me_bor 1) (co_bw lr_rd) (fun _ => (MA.p1 (ma_cons (args := fun p : StandingD × Unit => [.im (Py.r (Gb.mk K mg) p.1)]) (me_var 2) co_im (fun _ => (MA.p1 (ma_cons (args := fun p : Unit => []) (me_var 3) co_im (fun _ => ma_nl))))))))))))) (fun x_pieces => mb_frz 4 rfl (MB.p1 (mb_setLc 5 (α := Int) (own := [("piece", 10)]) sc_cuts.nd  rfl (sw_true rfl rfl rfl (by decide +kernel)) (mi_lst (ms_im (me_var 4))) (by first | (show blkC ["voucher", "parents", "basket", "standing", "pieces", "prices", "wanted", "fee", "most", "told", "piece", "cut"] (defScope s_cuts) _ _ = true; decide +kernel) | rfl) (by decide) (fun _ _ _ _ _ => (mg_name 10 sc_cuts.nd)) (fun _ _ _ _ _ (x_piece : Int) => (ME.p1 (ME.p1 (me_ix (ME.p1 (me_fld (pr := StandingD.f_prices) (me_var 3) (fun d I v h => rIns_fld 1 ⟨_, T.m_Standing, T.cl_Standing, T.n_Standing_prices⟩ h))) (me_var 10))))) (fun x_prices => mb_set 6 sc_cuts.nd (ME.p1 (me_meth (M := (fun (d : VoucherD) (p : (List Int) × (List Int) × Unit) => (match d with | .c_Off o => M.Off_wanted o p.1 p.2.1 | .c_Share o => M.Share_wanted o p.1 p.2.1 | .c_Carriage o => M.Voucher_wanted o p.1 p.2.1))) (k := (fun r => .fr (rl (Gb.mk K mg) (r : (List Int))))) (me_var 0) (fun d => by cases d with | c_Off o => exact ⟨_, _, _, _, 2, T.cl_Off, T.me_Off_Off_wanted, by decide, sp_self (args := fun p : (List Int) × (List Int) × Unit => [.bw (rl (Gb.mk K mg) p.1), .bw (rl (Gb.mk K mg) p.2.1)]) (M := fun p : OffD × ((List Int) × (List Int) × Unit) => M.Off_wanted p.1 p.2.1 p.2.2.1) (k := (fun r => .fr (rl (Gb.mk K mg) (r : (List Int))))) o (ok_Off_wanted T), T.b_Off_wanted_3, rIns_no T.m_Off (by decide +kernel)⟩ | c_Share o => exact ⟨_, _, _, _, 2, T.cl_Share, T.me_Share_Share_wanted, by decide, sp_self (args := fun p : (List Int) × (List Int) × Unit => [.bw (rl (Gb.mk K mg) p.1), .bw (rl (Gb.mk K mg) p.2.1)]) (M := fun p : ShareD × ((List Int) × (List Int) × Unit) => M.Share_wanted p.1 p.2.1 p.2.2.1) (k := (fun r => .fr (rl (Gb.mk K mg) (r : (List Int))))) o (ok_Share_wanted T), T.b_Share_wanted_3, rIns_no T.m_Share (by decide +kernel)⟩ | c_Carriage o => exact ⟨_, _, _, _, 1, T.cl_Carriage, T.me_Carriage_Voucher_wanted, by decide, sp_self (args := fun p : (List Int) × (List Int) × Unit => [.bw (rl (Gb.mk K mg) p.1), .bw (rl (Gb.mk K mg) p.2.1)]) (M := fun p : CarriageD × ((List Int) × (List Int) × Unit) => M.Voucher_wanted p.1 p.2.1 p.2.2.1) (k := (fun r => .fr (rl (Gb.mk K mg) (r : (List Int))))) o (ok_Voucher_wanted T), T.b_Voucher_wanted_3, rIns_no T.m_Carriage (by decide +kernel)⟩) hr (fun _ => (MA.p1 (ma_cons (args := fun p : (List Int) × Unit => [.bw (rl (Gb.mk K mg) p.1)]) (me_own 5) (co_bw lr_rd) (fun _ => (ma_cons (args := fun p : Unit => []) (ME.p1 (me_lc (α := Int) (own := [("piece", 10)]) sc_cuts.nd (mi_lst (ms_im (me_var 4))) (by first | (show blkC ["voucher", "parents", "basket", "standing", "pieces", "prices", "wanted", "fee", "most", "told", "piece", "cut"] (defScope s_cuts) _ _ = true; decide +kernel) | rfl) (by decide) (fun _ _ _ _ _ => (mg_name 10 sc_cuts.nd)) (fun _ _ _ _ _ (x_piece : Int) => (ME.p1 (ME.p1 (me_ix (ME.p1 (me_fld (pr := StandingD.f_owners) (me_var 3) (fun d I v h => rIns_fld 0 ⟨_, T.m_Standing, T.cl_Standing, T.n_Standing_owners⟩ h))) (me_var 10))))))) (co_bw lr_fr) (fun _ => ma_nl)))))))) (fun x_wanted => mb_eqS (S' := [some (.im (Py.r (Gb.mk K mg) (x_voucher : VoucherD))), some (.bw (rl (Gb.mk K mg) (x_parents : (List (Option Int))))), some (.im (Py.r (Gb.mk K mg) (x_basket : BasketD))), some (.im (Py.r (Gb.mk K mg) (x_standing : StandingD))), some (.im (Py.r (Gb.mk K mg) (x_pieces : (List Int)))), some (.fr (rl (Gb.mk K mg) (x_prices : (List Int)))), some (.fr (rl (Gb.mk K mg) (x_wanted : (List Int)))), none, none, none, none, none]) rfl (MB.p1 (mb_set 7 sc_cuts.nd (ME.p1 (me_meth (M := (fun (d : VoucherD) (p : Int × Unit) => some ((match d with | .c_Off o => M.Voucher_wanted_carriage o p.1 | .c_Share o => M.Voucher_wanted_carriage_1 o p.1 | .c_Carriage o => M.Carriage_wanted_carriage o p.1)))) (k := (fun r => .im (Py.r (Gb.mk K mg) (r : Int)))) (me_var 0) (fun d => by cases d with | c_Off o => exact ⟨_, _, _, _, 1, T.cl_Off, T.me_Off_Voucher_wanted_carriage, by decide, sp_self (args := fun p : Int × Unit => [.im (Py.r (Gb.mk K mg) p.1)]) (M := fun p : OffD × (Int × Unit) => some (M.Voucher_wanted_carriage p.1 p.2.1)) (k := (fun r => .im (Py.r (Gb.mk K mg) (r : Int)))) o (ok_Voucher_wanted_carriage T), T.b_Voucher_wanted_carriage_2, rIns_no T.m_Off (by decide +kernel)⟩ | c_Share o => exact ⟨_, _, _, _, 1, T.cl_Share, T.me_Share_Voucher_wanted_carriage, by decide, sp_self (args := fun p : Int × Unit => [.im (Py.r (Gb.mk K mg) p.1)]) (M := fun p : ShareD × (Int × Unit) => some (M.Voucher_wanted_carriage_1 p.1 p.2.1)) (k := (fun r => .im (Py.r (Gb.mk K mg) (r : Int)))) o (ok_Voucher_wanted_carriage_1 T), T.b_Voucher_wanted_carriage_2, rIns_no T.m_Share (by decide +kernel)⟩ | c_Carriage o => exact ⟨_, _, _, _, 1, T.cl_Carriage, T.me_Carriage_Carriage_wanted_carriage, by decide, sp_self (args := fun p : Int × Unit => [.im (Py.r (Gb.mk K mg) p.1)]) (M := fun p : CarriageD × (Int × Unit) => some (M.Carriage_wanted_carriage p.1 p.2.1)) (k := (fun r => .im (Py.r (Gb.mk K mg) (r : Int)))) o (ok_Carriage_wanted_carriage T), T.b_Carriage_wanted_carriage_2, rIns_no T.m_Carriage (by decide +kernel)⟩) hr (fun _ => (MA.p1 (ma_cons (args := fun p : Unit => []) (ME.p1 (me_fld (pr := StandingD.f_carriage) (me_var 3) (fun d I v h => rIns_fld 2 ⟨_, T.m_Standing, T.cl_Standing, T.n_Standing_carriage⟩ h))) co_im (fun _ => ma_nl)))))) (fun x_fee => mb_set 8 sc_cuts.nd (me_fld (pr := MarksD.f_most) (ME.p1 (me_get (ME.p1 (me_fld (pr := VoucherD.f_marks) (me_var 0) (fun d I v h => by cases d with | c_Off o => exact rIns_fld 0 ⟨_, T.m_Off, T.cl_Off, T.n_Off_marks⟩ h | c_Share o => exact rIns_fld 0 ⟨_, T.m_Share, T.cl_Share, T.n_Share_marks⟩ h | c_Carriage o => exact rIns_fld 0 ⟨_, T.m_Carriage, T.cl_Carriage, T.n_Carriage_marks⟩ h))))) (fun d I v h => rIns_fld 2 ⟨_, T.m_Marks, T.cl_Marks, T.n_Marks_most⟩ h)) (fun x_most => mb_if (S' := (fun z9 : ((List Int) × Int) => [some (.im (Py.r (Gb.mk K mg) (x_voucher : VoucherD))), some (.bw (rl (Gb.mk K mg) (x_parents : (List (Option Int))))), some (.im (Py.r (Gb.mk K mg) (x_basket : BasketD))), some (.im (Py.r (Gb.mk K mg) (x_standing : StandingD))), some (.im (Py.r (Gb.mk K mg) (x_pieces : (List Int)))), some (.fr (rl (Gb.mk K mg) (x_prices : (List Int)))), some (.fr (rl (Gb.mk K mg) (z9.1 : (List Int)))), some (.im (Py.r (Gb.mk K mg) (z9.2 : Int))), some (.im (Py.r (Gb.mk K mg) (x_most : (Option Int)))), none, none, none])) (mt_w (MW.p1 (mw_and (mt_cm (MC.p1 (mc_ntN (me_var 8)))) (mw_and1 (mt_cm (MC.p1 (mc_gt (ME.p1 (ME.p1 (me_add (ME.p1 (me_sum T.g_sum (me_own 6))) (me_var 7)))) (ME.p1 (me_get (me_var 8)))))))))) (mb_set 6 sc_cuts.nd (me_call (ok_dealt T) hr (by decide) T.m_dealt T.k_dealt T.b_dealt_2 .nil (ma_cons (args := fun p : (List Int) × Unit => [.bw (rl (Gb.mk K mg) p.1)]) (ME.p2 (me_min T.g_min (ME.p1 (me_get (me_var 8))) (ME.p1 (me_sum T.g_sum (me_own 6))))) co_im (fun _ => (MA.p1 (ma_cons (args := fun p : Unit => []) (me_own 6) (co_bw lr_rd) (fun _ => ma_nl)))))) (fun x_wanted => mb_eqS (S' := [some (.im (Py.r (Gb.mk K mg) (x_voucher : VoucherD))), some (.bw (rl (Gb.mk K mg) (x_parents : (List (Option Int))))), some (.im (Py.r (Gb.mk K mg) (x_basket : BasketD))), some (.im (Py.r (Gb.mk K mg) (x_standing : StandingD))), some (.im (Py.r (Gb.mk K mg) (x_pieces : (List Int)))), some (.fr (rl (Gb.mk K mg) (x_prices : (List Int)))), some (.fr (rl (Gb.mk K mg) (x_wanted : (List Int)))), some (.im (Py.r (Gb.mk K mg) (x_fee : Int))), some (.im (Py.r (Gb.mk K mg) (x_most : (Option Int)))), none, none, none]) rfl (mb_set 7 sc_cuts.nd (ME.p2 (me_min T.g_min (ME.p1 (me_get (me_var 8))) (me_var 7))) (fun x_fee => mb_nil (b := (x_wanted, x_fee)) kx_n (.keep (.keep (.keep (.keep (.keep (.keep (.keep (.keep (.keep (.keep (.keep (.keep .nil)))))))))))))))) (mb_nil (b := (x_wanted, x_fee)) kx_n (.keep (.keep (.keep (.keep (.keep (.keep (.keep (.keep (.keep (.keep (.keep (.keep .nil))))))))))))) (fun (z9 : ((List Int) × Int)) => mb_set 9 sc_cuts.nd (ME.p1 (ME.p1 (me_rep (me_lst (α := Int) (ML.p1 (ML.p1 (ml_cons me_int ml_nil)))) (ME.p1 (me_len T.g_len (ME.p1 (me_fld (pr := StandingD.f_prices) (me_var 3) (fun d I v h => rIns_fld 1 ⟨_, T.m_Standing, T.cl_Standing, T.n_Standing_prices⟩ h)))))))) (fun x_told => mb_frz 6 rfl (MB.p1 (mb_for (S' := (fun z12 : (List Int) => [some (.im (Py.r (Gb.mk K mg) (x_voucher : VoucherD))), some (.bw (rl (Gb.mk K mg) (x_parents : (List (Option Int))))), some (.im (Py.r (Gb.mk K mg) (x_basket : BasketD))), some (.im (Py.r (Gb.mk K mg) (x_standing : StandingD))), some (.im (Py.r (Gb.mk K mg) (x_pieces : (List Int)))), some (.fr (rl (Gb.mk K mg) (x_prices : (List Int)))), some (.im (Py.r (Gb.mk K mg) (z9.1 : (List Int)))), some (.im (Py.r (Gb.mk K mg) (z9.2 : Int))), some (.im (Py.r (Gb.mk K mg) (x_most : (Option Int)))), some (.fr (rl (Gb.mk K mg) (z12 : (List Int)))), none, none])) (s0 := x_told) PassesOwn.never (MI.p1 (MI.p1 (mi_zip T.g_zip (ms_im (me_var 4)) (ms_im (me_var 6))))) (mg_t2 10 11 sc_cuts.nd) (.keep (.keep (.keep (.keep (.keep (.keep (.keep (.keep (.keep (.keep (.keep (.keep .nil)))))))))))) (fun _ (z12 : (List Int)) (it13 : (T2 Int Int)) => MB.p1 (MB.p1 (mb_seti 9 (me_var 11) (me_var 10) (fun x_told => mb_nil (b := x_told) kx_n (.keep (.keep (.keep (.keep (.keep (.keep (.keep (.keep (.keep (.keep (.drop (.drop .nil)))))))))))))))) (fun (z14 : (List Int)) => MB.p1 (mb_retM 9 kr_t (me_var 7))))))))))))))))) ?_
  delta M.cuts
  rfl
theorem ok_after (T : Tx K mg) : FnOk P w K mg base CX0 4 T.f_after T.d_after ["voucher", "parents", "basket", "standing"] (spT (Gb.mk K mg) (fun p : VoucherD × (List (Option Int)) × BasketD × StandingD × Unit => [.im (Py.r (Gb.mk K mg) p.1), .bw (rl (Gb.mk K mg) p.2.1), .im (Py.r (Gb.mk K mg) p.2.2.1), .im (Py.r (Gb.mk K mg) p.2.2.2.1)]) (fun p => M.after p.1 p.2.1 p.2.2.1 p.2.2.2.1) (fun r => .im (Py.r (Gb.mk K mg) (r : StandingD)))) := by
  refine fnx_mk T.F_after sc_after (fun _ => rfl) (fun _ => rfl) (by decide) (fun cdv A outer s H E I p hr => ?_)
  obtain ⟨x_voucher, x_parents, x_basket, x_standing, ⟨⟩⟩ := p
  refine MB.eq (mb_asg (me_frzO (fun _ => (frz_T2 frz_F frz_I)) (me_call (ok_cuts T) hr (by decide) T.m_cuts T.k_cuts T.b_cuts_4 .nil (MA.p1 (ma_cons (args := fun p : (List (Option Int)) × BasketD × StandingD × Unit => [.bw (rl (Gb.mk K mg) p.1), .im (Py.r (Gb.mk K mg) p.2.1), .im (Py.r (Gb.mk K mg) p.2.2.1)]) (me_var 0) co_im (fun _ => (MA.p1 (ma_cons (args := fun p : BasketD × StandingD × Unit => [.im (Py.r (Gb.mk K mg) p.1), .im (Py.r (Gb.mk K mg) p.2.1)]) (me_bor 1) (co_bw lr_rd) (fun _ => (MA.p1 (ma_cons (args := fun p : StandingD × Unit => [.im (Py.r (Gb.mk K mg) p.1)]) (me_var 2) co_im (fun _ => (MA.p1 (ma_cons (args := fun p : Unit => []) (me_var 3) co_im (fun _ => ma_nl)))))))))))))) (mg_t2 4 5 sc_after.nd) (fun it1 => mb_set 6 sc_after.nd (me_make (or := fun r => o_Standing K mg r) (ok_Standing_init T) hr (by decide) T.mk_Standing T.m_Standing T.b_Standing_init_2 .nil (MA.p1 (ma_cons (args := fun p : Unit => []) (me_var 2) co_im (fun _ => ma_nl)))) (fun x_left => MB.p1 (MB.p1 (mb_fldP 1 (ME.p1 (me_lcP (α := (T2 Int Int)) (own := [("price", 9), ("cut", 8)]) sc_after.nd (MI.p1 (MI.p1 (mi_zip T.g_zip (ms_im (ME.p1 (me_fld (pr := StandingD.f_prices) (me_var 3) (fun d I v h => rIns_fld 1 ⟨_, T.m_Standing, T.cl_Standing, T.n_Standing_prices⟩ h)))) (ms_im (me_var 4))))) (by first | (show blkC ["voucher", "parents", "basket", "standing", "told", "fee", "left", "piece", "cut", "price"] (defScope s_after) _ _ = true; decide +kernel) | rfl) (by decide) (fun _ _ _ _ _ => (mg_t2 9 8 sc_after.nd)) (fun _ _ _ _ _ (it2 : (T2 Int Int)) => (ME.p1 (ME.p1 (me_sub (me_var 9) (me_var 8))))))) (mp_ow 6 (o1 := (oC (wI (Gb.mk K mg) "Standing" ["owners", "prices", "carriage", "marked"]) [(oF (rl (Gb.mk K mg) (x_left.f_owners : (List Int)))), (oF (rl (Gb.mk K mg) (x_left.f_prices : (List Int)))), (oI (Py.r (Gb.mk K mg) (x_left.f_carriage : Int))), (oF (rl (Gb.mk K mg) (x_left.f_marked : (List Bool))))]))) ⟨_, T.m_Standing, T.cl_Standing, T.n_Standing_prices⟩ (fun _ x_left_prices => MB.p1 (MB.p1 (mb_fldP 2 (ME.p1 (ME.p1 (me_sub (ME.p1 (me_fld (pr := StandingD.f_carriage) (me_var 3) (fun d I v h => rIns_fld 2 ⟨_, T.m_Standing, T.cl_Standing, T.n_Standing_carriage⟩ h))) (me_var 5)))) (mp_ow 6 (o1 := (oC (wI (Gb.mk K mg) "Standing" ["owners", "prices", "carriage", "marked"]) [(oF (rl (Gb.mk K mg) (x_left.f_owners : (List Int)))), (oF (rl (Gb.mk K mg) (x_left_prices : (List Int)))), (oI (Py.r (Gb.mk K mg) (x_left.f_carriage : Int))), (oF (rl (Gb.mk K mg) (x_left.f_marked : (List Bool))))]))) ⟨_, T.m_Standing, T.cl_Standing, T.n_Standing_carriage⟩ (fun _ x_left_carriage => mb_eqS (S' := [some (.im (Py.r (Gb.mk K mg) (x_voucher : VoucherD))), some (.bw (rl (Gb.mk K mg) (x_parents : (List (Option Int))))), some (.im (Py.r (Gb.mk K mg) (x_basket : BasketD))), some (.im (Py.r (Gb.mk K mg) (x_standing : StandingD))), some (.im (Py.r (Gb.mk K mg) (it1.x0 : (List Int)))), some (.im (Py.r (Gb.mk K mg) (it1.x1 : Int))), some (.ow (oC (wI (Gb.mk K mg) "Standing" ["owners", "prices", "carriage", "marked"]) [(oF (rl (Gb.mk K mg) (x_left.f_owners : (List Int)))), (oF (rl (Gb.mk K mg) (x_left_prices : (List Int)))), (oI (Py.r (Gb.mk K mg) (x_left_carriage : Int))), (oF (rl (Gb.mk K mg) (x_left.f_marked : (List Bool))))])), none, none, none]) rfl (MB.p1 (MB.p1 (mb_fldP 3 (ME.p1 (me_list T.g_list (ME.p1 (me_fld (pr := StandingD.f_marked) (me_var 3) (fun d I v h => rIns_fld 3 ⟨_, T.m_Standing, T.cl_Standing, T.n_Standing_marked⟩ h))))) (mp_ow 6 (o1 := (oC (wI (Gb.mk K mg) "Standing" ["owners", "prices", "carriage", "marked"]) [(oF (rl (Gb.mk K mg) (x_left.f_owners : (List Int)))), (oF (rl (Gb.mk K mg) (x_left_prices : (List Int)))), (oI (Py.r (Gb.mk K mg) (x_left_carriage : Int))), (oF (rl (Gb.mk K mg) (x_left.f_marked : (List Bool))))]))) ⟨_, T.m_Standing, T.cl_Standing, T.n_Standing_marked⟩ (fun _ x_left_marked => mb_if (S' := (fun z5 : ((List Int) × (List Int) × Int × (List Bool)) => [some (.im (Py.r (Gb.mk K mg) (x_voucher : VoucherD))), some (.bw (rl (Gb.mk K mg) (x_parents : (List (Option Int))))), some (.im (Py.r (Gb.mk K mg) (x_basket : BasketD))), some (.im (Py.r (Gb.mk K mg) (x_standing : StandingD))), some (.im (Py.r (Gb.mk K mg) (it1.x0 : (List Int)))), some (.im (Py.r (Gb.mk K mg) (it1.x1 : Int))), some (.ow (oC (wI (Gb.mk K mg) "Standing" ["owners", "prices", "carriage", "marked"]) [(oF (rl (Gb.mk K mg) (z5.1 : (List Int)))), (oF (rl (Gb.mk K mg) (z5.2.1 : (List Int)))), (oI (Py.r (Gb.mk K mg) (z5.2.2.1 : Int))), (oF (rl (Gb.mk K mg) (z5.2.2.2 : (List Bool))))])), none, none, none])) (mt_val (me_fld (pr := MarksD.f_lone) (ME.p1 (me_get (ME.p1 (me_fld (pr := VoucherD.f_marks) (me_var 0) (fun d I v h => by cases d with | c_Off o => exact rIns_fld 0 ⟨_, T.m_Off, T.cl_Off, T.n_Off_marks⟩ h | c_Share o => exact rIns_fld 0 ⟨_, T.m_Share, T.cl_Share, T.n_Share_marks⟩ h | c_Carriage o => exact rIns_fld 0 ⟨_, T.m_Carriage, T.cl_Carriage, T.n_Carriage_marks⟩ h))))) (fun d I v h => rIns_fld 5 ⟨_, T.m_Marks, T.cl_Marks, T.n_Marks_lone⟩ h))) (MB.p1 (mb_for (S' := (fun z8 : ((List Int) × (List Int) × Int × (List Bool)) => [some (.im (Py.r (Gb.mk K mg) (x_voucher : VoucherD))), some (.bw (rl (Gb.mk K mg) (x_parents : (List (Option Int))))), some (.im (Py.r (Gb.mk K mg) (x_basket : BasketD))), some (.im (Py.r (Gb.mk K mg) (x_standing : StandingD))), some (.im (Py.r (Gb.mk K mg) (it1.x0 : (List Int)))), some (.im (Py.r (Gb.mk K mg) (it1.x1 : Int))), some (.ow (oC (wI (Gb.mk K mg) "Standing" ["owners", "prices", "carriage", "marked"]) [(oF (rl (Gb.mk K mg) (z8.1 : (List Int)))), (oF (rl (Gb.mk K mg) (z8.2.1 : (List Int)))), (oI (Py.r (Gb.mk K mg) (z8.2.2.1 : Int))), (oF (rl (Gb.mk K mg) (z8.2.2.2 : (List Bool))))])), none, none, none])) (s0 := (x_left.f_owners, x_left_prices, x_left_carriage, x_left_marked)) PassesOwn.never (MI.p1 (mi_enum T.g_enumerate (ms_im (me_var 4)))) (mg_t2 7 8 sc_after.nd) (.keep (.keep (.keep (.keep (.keep (.keep (.keep (.keep (.keep (.keep .nil)))))))))) (fun _ (z8 : ((List Int) × (List Int) × Int × (List Bool))) (it9 : (T2 Int Int)) => MB.p1 (mb_if (S' := (fun z10 : ((List Int) × (List Int) × Int × (List Bool)) => [some (.im (Py.r (Gb.mk K mg) (x_voucher : VoucherD))), some (.bw (rl (Gb.mk K mg) (x_parents : (List (Option Int))))), some (.im (Py.r (Gb.mk K mg) (x_basket : BasketD))), some (.im (Py.r (Gb.mk K mg) (x_standing : StandingD))), some (.im (Py.r (Gb.mk K mg) (it1.x0 : (List Int)))), some (.im (Py.r (Gb.mk K mg) (it1.x1 : Int))), some (.ow (oC (wI (Gb.mk K mg) "Standing" ["owners", "prices", "carriage", "marked"]) [(oF (rl (Gb.mk K mg) (z10.1 : (List Int)))), (oF (rl (Gb.mk K mg) (z10.2.1 : (List Int)))), (oI (Py.r (Gb.mk K mg) (z10.2.2.1 : Int))), (oF (rl (Gb.mk K mg) (z10.2.2.2 : (List Bool))))])), some (.im (Py.r (Gb.mk K mg) (it9.x0 : Int))), some (.im (Py.r (Gb.mk K mg) (it9.x1 : Int))), none])) (mt_cm (MC.p1 (MC.p1 (mc_gt (me_var 8) me_int)))) (MB.p1 (MB.p1 (mb_setiP me_bl (mp_fld (oj := fun _ => (oF (rl (Gb.mk K mg) (z8.2.2.2 : (List Bool))))) 3 (mp_ow 6 (o1 := (oC (wI (Gb.mk K mg) "Standing" ["owners", "prices", "carriage", "marked"]) [(oF (rl (Gb.mk K mg) (z8.1 : (List Int)))), (oF (rl (Gb.mk K mg) (z8.2.1 : (List Int)))), (oI (Py.r (Gb.mk K mg) (z8.2.2.1 : Int))), (oF (rl (Gb.mk K mg) (z8.2.2.2 : (List Bool))))]))) ⟨_, T.m_Standing, T.cl_Standing, T.n_Standing_marked⟩) (ME.p1 (ME.p1 (me_ix (ME.p1 (me_fld (pr := StandingD.f_owners) (me_var 3) (fun d I v h => rIns_fld 0 ⟨_, T.m_Standing, T.cl_Standing, T.n_Standing_owners⟩ h))) (me_var 7)))) (fun _ x_left_marked => mb_nil (b := (z8.1, z8.2.1, z8.2.2.1, x_left_marked)) kx_n (.keep (.keep (.keep (.keep (.keep (.keep (.keep (.keep (.keep (.keep .nil)))))))))))))) (mb_nil (b := (z8.1, z8.2.1, z8.2.2.1, z8.2.2.2)) kx_n (.keep (.keep (.keep (.keep (.keep (.keep (.keep (.keep (.keep (.keep .nil))))))))))) (fun (z10 : ((List Int) × (List Int) × Int × (List Bool))) => mb_nil (b := (z10.1, z10.2.1, z10.2.2.1, z10.2.2.2)) kx_n (.keep (.keep (.keep (.keep (.keep (.keep (.keep (.drop (.drop (.keep .nil))))))))))))) (fun (z12 : ((List Int) × (List Int) × Int × (List Bool))) => mb_nil (b := (z12.1, z12.2.1, z12.2.2.1, z12.2.2.2)) kx_n (.keep (.keep (.keep (.keep (.keep (.keep (.keep (.keep (.keep (.keep .nil))))))))))))) (mb_nil (b := (x_left.f_owners, x_left_prices, x_left_carriage, x_left_marked)) kx_n (.keep (.keep (.keep (.keep (.keep (.keep (.keep (.keep (.keep (.keep .nil))))))))))) (fun (z5 : ((List Int) × (List Int) × Int × (List Bool))) => mb_frzO (a := (StandingD.mk z5.1 z5.2.1 z5.2.2.1 z5.2.2.2)) 6 (z_Standing _) rfl (mb_retT (me_var 6)))))))))))))))) ?_
  delta M.after
  rfl
theorem ok_lacking (T : Tx K mg) : FnOk P w K mg base CX0 1 T.f_lacking T.d_lacking ["till", "order"] (spT (Gb.mk K mg) (fun p : TillD × (List Int) × Unit => [.im (Py.r (Gb.mk K mg) p.1), .bw (rl (Gb.mk K mg) p.2.1)]) (fun p => M.lacking p.1 p.2.1) (fun r => .im (Py.r (Gb.mk K mg) (r : (Option (T3 Str Int Int)))))) := by
  refine fnx_mk T.F_lacking sc_lacking (fun _ => rfl) (fun _ => rfl) (by decide) (fun cdv A outer s H E I p hr => ?_)
  obtain ⟨x_till, x_order, ⟨⟩⟩ := p
  refine MB.eq (MB.p1 (mb_forT (S' := (fun z1 : Unit => [some (.im (Py.r (Gb.mk K mg) (x_till : TillD))), some (.bw (rl (Gb.mk K mg) (x_order : (List Int)))), none])) (s0 := ()) (mi_lst (ms_im (ME.p1 (me_fld (pr := TillD.f_rules) (me_var 0) (fun d I v h => rIns_fld 2 ⟨_, T.m_Till, T.cl_Till, T.n_Till_rules⟩ h))))) (mg_name 2 sc_lacking.nd) (.keep (.keep (.keep .nil))) (fun _ (z1 : Unit) (x_rule : (T3 Str Int Int)) => MB.p1 (mb_ift (mt_w (mw_andP (mt_cm (MC.p1 (MC.p1 (mc_eq (α := Str) hr.units (Nat.le_of_ble_eq_true rfl) (ME.p1 (me_tix 0 (me_var 2) t3_0)) me_str)))) (mw_andP (mt_cm (MC.p1 (MC.p1 (mc_in (α := Int) hr.units (Nat.le_of_ble_eq_true rfl) (ME.p1 (me_tix 1 (me_var 2) t3_1)) (me_bor 1))))) (mw_and1 (mt_cm (MC.p1 (MC.p1 (mc_ni (α := Int) hr.units (Nat.le_of_ble_eq_true rfl) (ME.p1 (me_tix 2 (me_var 2) t3_2)) (me_bor 1))))))))) (MB.p1 (mb_ret kr_c (ME.p1 (me_some (α := (T3 Str Int Int)) (me_var 2))))) (mb_nil (b := ()) kx_c (.keep (.keep (.drop .nil)))) (hk_c (by repeat (first | exact nn_rt | exact nn_ct | exact nn_bk | refine nn_ite ?_ ?_ | refine nn_bind fun _ => ?_))))) (fun (z2 : Unit) => mb_retT me_non))) ?_
  delta M.lacking
  rfl
theorem ok_fault (T : Tx K mg) : FnOk P w K mg base CX0 5 T.f_fault T.d_fault ["till", "basket", "hand", "order"] (spT (Gb.mk K mg) (fun p : TillD × BasketD × (List Int) × (List Int) × Unit => [.im (Py.r (Gb.mk K mg) p.1), .im (Py.r (Gb.mk K mg) p.2.1), .bw (rl (Gb.mk K mg) p.2.2.1), .bw (rl (Gb.mk K mg) p.2.2.2.1)]) (fun p => M.fault p.1 p.2.1 p.2.2.1 p.2.2.2.1) (fun r => .im (Py.r (Gb.mk K mg) (r : (Option (T2 Int Str)))))) := by
  refine fnx_mk T.F_fault sc_fault (fun _ => rfl) (fun _ => rfl) (by decide) (fun cdv A outer s H E I p hr => ?_)
  obtain ⟨x_till, x_basket, x_hand, x_order, ⟨⟩⟩ := p
  refine MB.eq (mb_set 4 sc_fault.nd (me_make (or := fun r => o_Standing K mg r) (ok_Standing_init T) hr (by decide) T.mk_Standing T.m_Standing T.b_Standing_init_2 .nil (MA.p1 (ma_cons (args := fun p : Unit => []) (me_var 1) co_im (fun _ => ma_nl)))) (fun x_standing => MB.p1 (mb_set 5 sc_fault.nd (me_lst (α := Int) ml_nil) (fun x_ahead => mb_frzO (a := x_standing) 4 (z_Standing _) rfl (MB.p1 (mb_forT (S' := (fun z5 : (StandingD × (List Int)) => [some (.im (Py.r (Gb.mk K mg) (x_till : TillD))), some (.im (Py.r (Gb.mk K mg) (x_basket : BasketD))), some (.bw (rl (Gb.mk K mg) (x_hand : (List Int)))), some (.bw (rl (Gb.mk K mg) (x_order : (List Int)))), some (.im (Py.r (Gb.mk K mg) (z5.1 : StandingD))), some (.fr (rl (Gb.mk K mg) (z5.2 : (List Int)))), none, none, none])) (s0 := (x_standing, x_ahead)) (MI.p1 (mi_enum T.g_enumerate (ms_bw 3))) (mg_t2 6 7 sc_fault.nd) (.keep (.keep (.keep (.keep (.keep (.keep (.keep (.keep (.keep .nil))))))))) (fun _ (z5 : (StandingD × (List Int))) (it6 : (T2 Int Int)) => mb_set 8 sc_fault.nd (me_call (ok_word_of T) hr (by decide) T.m_word_of T.k_word_of T.b_word_of_6 .nil (MA.p1 (ma_cons (args := fun p : BasketD × (List Int) × (List Int) × Int × StandingD × Unit => [.im (Py.r (Gb.mk K mg) p.1), .bw (rl (Gb.mk K mg) p.2.1), .bw (rl (Gb.mk K mg) p.2.2.1), .im (Py.r (Gb.mk K mg) p.2.2.2.1), .im (Py.r (Gb.mk K mg) p.2.2.2.2.1)]) (me_var 0) co_im (fun _ => (MA.p1 (ma_cons (args := fun p : (List Int) × (List Int) × Int × StandingD × Unit => [.bw (rl (Gb.mk K mg) p.1), .bw (rl (Gb.mk K mg) p.2.1), .im (Py.r (Gb.mk K mg) p.2.2.1), .im (Py.r (Gb.mk K mg) p.2.2.2.1)]) (me_var 1) co_im (fun _ => (MA.p1 (ma_cons (args := fun p : (List Int) × Int × StandingD × Unit => [.bw (rl (Gb.mk K mg) p.1), .im (Py.r (Gb.mk K mg) p.2.1), .im (Py.r (Gb.mk K mg) p.2.2.1)]) (me_bor 2) (co_bw lr_rd) (fun _ => (MA.p1 (ma_cons (args := fun p : Int × StandingD × Unit => [.im (Py.r (Gb.mk K mg) p.1), .im (Py.r (Gb.mk K mg) p.2.1)]) (me_own 5) (co_bw lr_rd) (fun _ => (MA.p1 (ma_cons (args := fun p : StandingD × Unit => [.im (Py.r (Gb.mk K mg) p.1)]) (me_var 7) co_im (fun _ => (MA.p1 (ma_cons (args := fun p : Unit => []) (me_var 4) co_im (fun _ => ma_nl))))))))))))))))))) (fun x_word => MB.p1 (mb_ift (mt_cm (MC.p1 (mc_ntN (me_var 8)))) (mb_ret kr_c (me_some (α := (T2 Int Str)) (ME.p1 (me_t2 (me_var 6) (ME.p1 (me_get (me_var 8))))))) (mb_set 4 sc_fault.nd (me_call (ok_after T) hr (by decide) T.m_after T.k_after T.b_after_4 .nil (ma_cons (args := fun p : (List (Option Int)) × BasketD × StandingD × Unit => [.bw (rl (Gb.mk K mg) p.1), .im (Py.r (Gb.mk K mg) p.2.1), .im (Py.r (Gb.mk K mg) p.2.2.1)]) (ME.p1 (ME.p1 (me_ix (ME.p1 (me_fld (pr := TillD.f_vouchers) (me_var 0) (fun d I v h => rIns_fld 1 ⟨_, T.m_Till, T.cl_Till, T.n_Till_vouchers⟩ h))) (me_var 7)))) co_im (fun _ => (MA.p1 (ma_cons (args := fun p : BasketD × StandingD × Unit => [.im (Py.r (Gb.mk K mg) p.1), .im (Py.r (Gb.mk K mg) p.2.1)]) (ME.p1 (me_fld (pr := TillD.f_parents) (me_var 0) (fun d I v h => rIns_fld 0 ⟨_, T.m_Till, T.cl_Till, T.n_Till_parents⟩ h))) (co_bw lr_im) (fun _ => (MA.p1 (ma_cons (args := fun p : StandingD × Unit => [.im (Py.r (Gb.mk K mg) p.1)]) (me_var 1) co_im (fun _ => (MA.p1 (ma_cons (args := fun p : Unit => []) (me_var 4) co_im (fun _ => ma_nl)))))))))))) (fun x_standing => mb_eqS (S' := [some (.im (Py.r (Gb.mk K mg) (x_till : TillD))), some (.im (Py.r (Gb.mk K mg) (x_basket : BasketD))), some (.bw (rl (Gb.mk K mg) (x_hand : (List Int)))), some (.bw (rl (Gb.mk K mg) (x_order : (List Int)))), some (.im (Py.r (Gb.mk K mg) (x_standing : StandingD))), some (.fr (rl (Gb.mk K mg) (z5.2 : (List Int)))), some (.im (Py.r (Gb.mk K mg) (it6.x0 : Int))), some (.im (Py.r (Gb.mk K mg) (it6.x1 : Int))), some (.im (Py.r (Gb.mk K mg) (x_word : (Option Str))))]) rfl (MB.p1 (mb_app 5 (me_var 7) (fun x_ahead => mb_nil (b := (x_standing, x_ahead)) kx_c (.keep (.keep (.keep (.keep (.keep (.keep (.drop (.drop (.drop .nil)))))))))))))) (hk_c (by repeat (first | exact nn_rt | exact nn_ct | exact nn_bk | refine nn_ite ?_ ?_ | refine nn_bind fun _ => ?_)))))) (fun (z17 : (StandingD × (List Int))) => mb_ift (mt_cm (mc_ntN (me_call (ok_lacking T) hr (by decide) T.m_lacking T.k_lacking T.b_lacking_2 .nil (MA.p1 (ma_cons (args := fun p : (List Int) × Unit => [.bw (rl (Gb.mk K mg) p.1)]) (me_var 0) co_im (fun _ => (MA.p1 (ma_cons (args := fun p : Unit => []) (me_own 5) (co_bw lr_rd) (fun _ => ma_nl))))))))) (mb_retT (ME.p1 (me_some (α := (T2 Int Str)) (ME.p1 (ME.p1 (me_t2 (ME.p1 (me_len T.g_len (me_own 5))) me_str)))))) (mb_retT me_non) hk_t))))))) ?_
  delta M.fault
  rfl
theorem ok_law_under (T : Tx K mg) : FnOk P w K mg base CX0 1 T.f_law_under T.d_law_under ["_law_parents_here", "_law_one", "_law_other"] (spT (Gb.mk K mg) (fun p : (List (Option Int)) × (Option Int) × PyData × Unit => [.bw (rl (Gb.mk K mg) p.1), .im (Py.r (Gb.mk K mg) p.2.1), .im (Py.r (Gb.mk K mg) p.2.2.1)]) (fun p => M.law_under p.1 p.2.1 p.2.2.1) (fun r => .im (Py.r (Gb.mk K mg) (r : Bool)))) := by
  refine fnx_mk T.F_law_under sc_law_under (fun _ => rfl) (fun _ => rfl) (by decide) (fun cdv A outer s H E I p hr => ?_)
  obtain ⟨x_law_parents_here, x_law_one, x_law_other, ⟨⟩⟩ := p
  refine MB.eq (mb_whileT 1000000 (S' := (fun z1 : (Option Int) => [some (.bw (rl (Gb.mk K mg) (x_law_parents_here : (List (Option Int))))), some (.im (Py.r (Gb.mk K mg) (z1 : (Option Int)))), some (.im (Py.r (Gb.mk K mg) (x_law_other : PyData)))])) (s0 := x_law_one) (.keep (.keep (.keep .nil))) (fun (z1 : (Option Int)) => (mt_w (MW.p1 (mw_and (mt_cm (MC.p1 (mc_ntN (me_var 1)))) (mw_and1 (mt_cm (MC.p1 (MC.p1 (mc_neD hr.units (ME.p1 (me_toD (α := (Option Int)) (me_var 1))) (me_var 2)))))))))) (fun (z1 : (Option Int)) => mb_set 1 sc_law_under.nd (ME.p1 (me_ix (me_bor 0) (ME.p1 (me_get (me_var 1))))) (fun x_law_one => mb_nil (b := x_law_one) kx_c (.keep (.keep (.keep .nil))))) (fun (z6 : (Option Int)) => mb_retT (me_cm (MC.p1 (mc_ntN (me_var 1)))))) ?_
  delta M.law_under
  rfl
theorem ok_law_about (T : Tx K mg) : FnOk P w K mg base CX0 2 T.f_law_about T.d_law_about ["_law_voucher_here", "_law_parents_here", "_law_told", "_law_state"] (spT (Gb.mk K mg) (fun p : PyData × (List (Option Int)) × (T3 (List (T4 Int Int Int (Option Int))) Int Bool) × (HR [("prices" : Str), ("owners" : Str), ("marked" : Str)] (HC (List Int) (HC (List Int) (HC (List Bool) HU)))) × Unit => [.im (Py.r (Gb.mk K mg) p.1), .bw (rl (Gb.mk K mg) p.2.1), .im (Py.r (Gb.mk K mg) p.2.2.1), .im (Py.r (Gb.mk K mg) p.2.2.2.1)]) (fun p => M.law_about p.1 p.2.1 p.2.2.1 p.2.2.2.1) (fun r => .fr (rl (Gb.mk K mg) (r : (List Int))))) := by
  refine fnx_mk T.F_law_about sc_law_about (fun _ => rfl) (fun _ => rfl) (by decide) (fun cdv A outer s H E I p hr => ?_)
  obtain ⟨x_law_voucher_here, x_law_parents_here, x_law_told, x_law_state, ⟨⟩⟩ := p
  refine MB.eq (mb_set 4 sc_law_about.nd (ME.p1 (me_atD (me_var 0) (ME.p2 (me_sub (ME.p1 (me_lenD T.g_len (me_var 0))) me_int)))) (fun x_law_marks => MB.p1 (mb_set 5 sc_law_about.nd (me_lst (α := Int) ml_nil) (fun x_law_found => MB.p1 (mb_for (S' := (fun z7 : (List Int) => [some (.im (Py.r (Gb.mk K mg) (x_law_voucher_here : PyData))), some (.bw (rl (Gb.mk K mg) (x_law_parents_here : (List (Option Int))))), some (.im (Py.r (Gb.mk K mg) (x_law_told : (T3 (List (T4 Int Int Int (Option Int))) Int Bool)))), some (.im (Py.r (Gb.mk K mg) (x_law_state : (HR [("prices" : Str), ("owners" : Str), ("marked" : Str)] (HC (List Int) (HC (List Int) (HC (List Bool) HU))))))), some (.im (Py.r (Gb.mk K mg) (x_law_marks : PyData))), some (.fr (rl (Gb.mk K mg) (z7 : (List Int)))), none, none, none])) (s0 := x_law_found) PassesOwn.never (MI.p1 (mi_enum T.g_enumerate (ms_im (ME.p1 (me_kix (α := (List Int)) (β := (HC (List Int) (HC (List Int) (HC (List Bool) HU)))) (pr := fun t => t.t.h) hr.units 1 (me_var 3)))))) (mg_t2 6 7 sc_law_about.nd) (.keep (.keep (.keep (.keep (.keep (.keep (.keep (.keep (.keep .nil))))))))) (fun _ (z7 : (List Int)) (it8 : (T2 Int Int)) => mb_set 8 sc_law_about.nd (me_or (me_cm (mc_isND (ME.p1 (ME.p1 (me_atD (me_var 4) me_int))))) (me_one (me_call (ok_law_under T) hr (by decide) T.m_law_under T.k_law_under T.b_law_under_3 .nil (MA.p1 (ma_cons (args := fun p : (Option Int) × PyData × Unit => [.im (Py.r (Gb.mk K mg) p.1), .im (Py.r (Gb.mk K mg) p.2.1)]) (me_bor 1) (co_bw lr_rd) (fun _ => (ma_cons (args := fun p : PyData × Unit => [.im (Py.r (Gb.mk K mg) p.1)]) (me_some (α := Int) (me_tix 0 (ME.p1 (ME.p1 (me_ix (ME.p1 (me_tix 0 (me_var 2) t3_0)) (me_var 7)))) t4_0)) co_im (fun _ => (ma_cons (args := fun p : Unit => []) (ME.p1 (ME.p1 (me_atD (me_var 4) me_int))) co_im (fun _ => ma_nl)))))))))) (fun x_law_fits => mb_if (S' := (fun z24 : (List Int) => [some (.im (Py.r (Gb.mk K mg) (x_law_voucher_here : PyData))), some (.bw (rl (Gb.mk K mg) (x_law_parents_here : (List (Option Int))))), some (.im (Py.r (Gb.mk K mg) (x_law_told : (T3 (List (T4 Int Int Int (Option Int))) Int Bool)))), some (.im (Py.r (Gb.mk K mg) (x_law_state : (HR [("prices" : Str), ("owners" : Str), ("marked" : Str)] (HC (List Int) (HC (List Int) (HC (List Bool) HU))))))), some (.im (Py.r (Gb.mk K mg) (x_law_marks : PyData))), some (.fr (rl (Gb.mk K mg) (z24 : (List Int)))), some (.im (Py.r (Gb.mk K mg) (it8.x0 : Int))), some (.im (Py.r (Gb.mk K mg) (it8.x1 : Int))), some (.im (Py.r (Gb.mk K mg) (x_law_fits : Bool)))])) (mt_w (MW.p1 (mw_and (mt_val (me_var 8)) (mw_and1 (mt_not (mt_w (mw_and (mt_val (me_asBool (ME.p1 (ME.p1 (me_atD (me_var 4) me_int))))) (mw_and1 (mt_val (ME.p1 (ME.p1 (me_ix (ME.p1 (me_kix (α := (List Bool)) (β := (HC (List Int) (HC (List Int) (HC (List Bool) HU)))) (pr := fun t => t.t.t.h) hr.units 2 (me_var 3))) (me_var 7))))))))))))) (MB.p1 (mb_app 5 (me_var 6) (fun x_law_found => mb_nil (b := x_law_found) kx_n (.keep (.keep (.keep (.keep (.keep (.keep (.keep (.keep (.keep .nil)))))))))))) (mb_nil (b := z7) kx_n (.keep (.keep (.keep (.keep (.keep (.keep (.keep (.keep (.keep .nil)))))))))) (fun (z24 : (List Int)) => mb_nil (b := z24) kx_n (.keep (.keep (.keep (.keep (.keep (.keep (.drop (.drop (.drop .nil)))))))))))) (fun (z26 : (List Int)) => mb_retO 5 kr_t)))))) ?_
  delta M.law_about
  rfl
theorem ok_law_hindrance (T : Tx K mg) : FnOk P w K mg base CX0 1 T.f_law_hindrance T.d_law_hindrance ["_law_voucher_here", "_law_told", "_law_pieces", "_law_state"] (spT (Gb.mk K mg) (fun p : PyData × (T3 (List (T4 Int Int Int (Option Int))) Int Bool) × (List Int) × (HR [("prices" : Str), ("owners" : Str), ("marked" : Str)] (HC (List Int) (HC (List Int) (HC (List Bool) HU)))) × Unit => [.im (Py.r (Gb.mk K mg) p.1), .im (Py.r (Gb.mk K mg) p.2.1), .bw (rl (Gb.mk K mg) p.2.2.1), .im (Py.r (Gb.mk K mg) p.2.2.2.1)]) (fun p => M.law_hindrance p.1 p.2.1 p.2.2.1 p.2.2.2.1) (fun r => .im (Py.r (Gb.mk K mg) (r : (Option Str))))) := by
  refine fnx_mk T.F_law_hindrance sc_law_hindrance (fun _ => rfl) (fun _ => rfl) (by decide) (fun cdv A outer s H E I p hr => ?_)
  obtain ⟨x_law_voucher_here, x_law_told, x_law_pieces, x_law_state, ⟨⟩⟩ := p
  refine MB.eq (mb_set 4 sc_law_hindrance.nd (ME.p1 (me_atD (me_var 0) (ME.p2 (me_sub (ME.p1 (me_lenD T.g_len (me_var 0))) me_int)))) (fun x_law_marks => mb_ift (mt_w (mw_and (mt_val (me_asBool (ME.p1 (ME.p1 (me_atD (me_var 4) me_int))))) (mw_and1 (MT.p1 (mt_not (mt_val (ME.p1 (me_tix 2 (me_var 1) t3_2)))))))) (mb_retT (ME.p1 (me_some (α := Str) me_str))) (MB.p1 (mb_ift (mt_cm (MC.p1 (MC.p1 (mc_eq (α := (List Int)) hr.units (Nat.le_of_ble_eq_true rfl) (me_bor 2) (me_lst (α := Int) ml_nil))))) (mb_retT (ME.p1 (me_some (α := Str) me_str))) (mb_ift (mt_cm (mc_lt (me_sum T.g_sum (ME.p1 (me_lc (α := Int) (own := [("_law_piece", 5)]) sc_law_hindrance.nd (mi_lst (ms_bw 2)) (by first | (show blkC ["_law_voucher_here", "_law_told", "_law_pieces", "_law_state", "_law_marks", "_law_piece"] (defScope s_law_hindrance) _ _ = true; decide +kernel) | rfl) (by decide) (fun _ _ _ _ _ => (mg_name 5 sc_law_hindrance.nd)) (fun _ _ _ _ _ (x_law_piece : Int) => (ME.p1 (ME.p1 (me_ix (ME.p1 (me_kix (α := (List Int)) (β := (HC (List Int) (HC (List Int) (HC (List Bool) HU)))) (pr := fun t => t.h) hr.units 0 (me_var 3))) (me_var 5)))))))) (me_asInt (ME.p1 (ME.p1 (me_atD (me_var 4) me_int)))))) (mb_eqS (S' := [some (.im (Py.r (Gb.mk K mg) (x_law_voucher_here : PyData))), some (.im (Py.r (Gb.mk K mg) (x_law_told : (T3 (List (T4 Int Int Int (Option Int))) Int Bool)))), some (.bw (rl (Gb.mk K mg) (x_law_pieces : (List Int)))), some (.im (Py.r (Gb.mk K mg) (x_law_state : (HR [("prices" : Str), ("owners" : Str), ("marked" : Str)] (HC (List Int) (HC (List Int) (HC (List Bool) HU))))))), some (.im (Py.r (Gb.mk K mg) (x_law_marks : PyData))), none]) rfl (mb_retT (ME.p1 (me_some (α := Str) me_str)))) (mb_eqS (S' := [some (.im (Py.r (Gb.mk K mg) (x_law_voucher_here : PyData))), some (.im (Py.r (Gb.mk K mg) (x_law_told : (T3 (List (T4 Int Int Int (Option Int))) Int Bool)))), some (.bw (rl (Gb.mk K mg) (x_law_pieces : (List Int)))), some (.im (Py.r (Gb.mk K mg) (x_law_state : (HR [("prices" : Str), ("owners" : Str), ("marked" : Str)] (HC (List Int) (HC (List Int) (HC (List Bool) HU))))))), some (.im (Py.r (Gb.mk K mg) (x_law_marks : PyData))), none]) rfl (mb_retT me_non)) hk_t) hk_t)) hk_t)) ?_
  delta M.law_hindrance
  rfl
theorem ok_law_used (T : Tx K mg) : FnOk P w K mg base CX0 1 T.f_law_used T.d_law_used ["_law_voucher_here", "_law_pieces", "_law_state"] (spIO (Gb.mk K mg) (fun p : PyData × (List Int) × (HR [("prices" : Str), ("owners" : Str), ("marked" : Str)] (HC (List Int) (HC (List Int) (HC (List Bool) HU)))) × Unit => [.im (Py.r (Gb.mk K mg) p.1), .im (Py.r (Gb.mk K mg) p.2.1), .ow (oC (wR [("prices" : Str), ("owners" : Str), ("marked" : Str)]) [(oF (rl (Gb.mk K mg) (p.2.2.1.s.h : (List Int)))), (oF (rl (Gb.mk K mg) (p.2.2.1.s.t.h : (List Int)))), (oF (rl (Gb.mk K mg) (p.2.2.1.s.t.t.h : (List Bool))))])]) (fun p => M.law_used p.1 p.2.1 p.2.2.1) (fun _ => .im (Py.r (Gb.mk K mg) ())) (fun r : (HR [("prices" : Str), ("owners" : Str), ("marked" : Str)] (HC (List Int) (HC (List Int) (HC (List Bool) HU)))) => [(2, (oC (wR [("prices" : Str), ("owners" : Str), ("marked" : Str)]) [(oF (rl (Gb.mk K mg) (r.s.h : (List Int)))), (oF (rl (Gb.mk K mg) (r.s.t.h : (List Int)))), (oF (rl (Gb.mk K mg) (r.s.t.t.h : (List Bool))))]))])) := by
  refine fiu_mk T.F_law_used sc_law_used (fun _ => rfl) (by decide) (fun _ p hp => by rw [List.mem_singleton.mp hp]; exact (by decide : 2 < 3)) (fun cdv A outer s H E I R u p hr => ?_)
  obtain ⟨x_law_voucher_here, x_law_pieces, x_law_state, ⟨⟩⟩ := p
  refine MB.eq (mb_set 3 sc_law_used.nd (me_sum T.g_sum (ME.p1 (me_lc (α := Int) (own := [("_law_piece", 7)]) sc_law_used.nd (mi_lst (ms_im (me_var 1))) (by first | (show blkC ["_law_voucher_here", "_law_pieces", "_law_state", "_law_total", "_law_cut", "_law_upto", "_law_gone", "_law_piece", "_law_part"] (defScope s_law_used) _ _ = true; decide +kernel) | rfl) (by decide) (fun _ _ _ _ _ => (mg_name 7 sc_law_used.nd)) (fun _ _ _ _ _ (x_law_piece : Int) => (ME.p1 (ME.p1 (me_ix (ME.p1 (me_plF (a := fun _ => (x_law_state.s.h : (List Int))) (mp_key (oj := fun _ => (oF (rl (Gb.mk K mg) (x_law_state.s.h : (List Int))))) hr.units 0 (mp_pin 2 (v0 := u 2) (o1 := (oC (wR [("prices" : Str), ("owners" : Str), ("marked" : Str)]) [(oF (rl (Gb.mk K mg) (x_law_state.s.h : (List Int)))), (oF (rl (Gb.mk K mg) (x_law_state.s.t.h : (List Int)))), (oF (rl (Gb.mk K mg) (x_law_state.s.t.t.h : (List Bool))))])))))) (me_var 7)))))))) (fun x_law_total => MB.p1 (mb_set 4 sc_law_used.nd me_int (fun x_law_cut => mb_if (S' := (fun z4 : Int => [some (.im (Py.r (Gb.mk K mg) (x_law_voucher_here : PyData))), some (.im (Py.r (Gb.mk K mg) (x_law_pieces : (List Int)))), some (.ow (oP (u 2) (oC (wR [("prices" : Str), ("owners" : Str), ("marked" : Str)]) [(oF (rl (Gb.mk K mg) (x_law_state.s.h : (List Int)))), (oF (rl (Gb.mk K mg) (x_law_state.s.t.h : (List Int)))), (oF (rl (Gb.mk K mg) (x_law_state.s.t.t.h : (List Bool))))]))), some (.im (Py.r (Gb.mk K mg) (x_law_total : Int))), some (.im (Py.r (Gb.mk K mg) (z4 : Int))), none, none, none, none])) (mt_cm (MC.p2 (mc_eqD hr.units (ME.p1 (ME.p1 (me_atD (me_var 0) me_int))) (ME.p1 (me_toD (α := Str) me_str))))) (mb_set 4 sc_law_used.nd (ME.p2 (me_min T.g_min (me_asInt (ME.p1 (ME.p1 (me_atD (me_var 0) me_int)))) (me_var 3))) (fun x_law_cut => mb_nil (b := x_law_cut) kx_n (.keep (.keep (.keep (.keep (.keep (.keep (.keep (.keep (.keep .nil))))))))))) (mb_if (S' := (fun z28 : Int => [some (.im (Py.r (Gb.mk K mg) (x_law_voucher_here : PyData))), some (.im (Py.r (Gb.mk K mg) (x_law_pieces : (List Int)))), some (.ow (oP (u 2) (oC (wR [("prices" : Str), ("owners" : Str), ("marked" : Str)]) [(oF (rl (Gb.mk K mg) (x_law_state.s.h : (List Int)))), (oF (rl (Gb.mk K mg) (x_law_state.s.t.h : (List Int)))), (oF (rl (Gb.mk K mg) (x_law_state.s.t.t.h : (List Bool))))]))), some (.im (Py.r (Gb.mk K mg) (x_law_total : Int))), some (.im (Py.r (Gb.mk K mg) (z28 : Int))), none, none, none, none])) (mt_cm (MC.p2 (mc_eqD hr.units (ME.p1 (ME.p1 (me_atD (me_var 0) me_int))) (ME.p1 (me_toD (α := Str) me_str))))) (mb_eqS (S' := [some (.im (Py.r (Gb.mk K mg) (x_law_voucher_here : PyData))), some (.im (Py.r (Gb.mk K mg) (x_law_pieces : (List Int)))), some (.ow (oP (u 2) (oC (wR [("prices" : Str), ("owners" : Str), ("marked" : Str)]) [(oF (rl (Gb.mk K mg) (x_law_state.s.h : (List Int)))), (oF (rl (Gb.mk K mg) (x_law_state.s.t.h : (List Int)))), (oF (rl (Gb.mk K mg) (x_law_state.s.t.t.h : (List Bool))))]))), some (.im (Py.r (Gb.mk K mg) (x_law_total : Int))), some (.im (Py.r (Gb.mk K mg) (x_law_cut : Int))), none, none, none, none]) rfl (mb_set 4 sc_law_used.nd (me_divC (n := 1000) (by decide) (ME.p1 (me_mul (me_var 3) (me_asInt (ME.p1 (ME.p1 (me_atD (me_var 0) me_int)))))) me_int) (fun x_law_cut => mb_nil (b := x_law_cut) kx_n (.keep (.keep (.keep (.keep (.keep (.keep (.keep (.keep (.keep .nil)))))))))))) (mb_nil (b := x_law_cut) kx_n (.keep (.keep (.keep (.keep (.keep (.keep (.keep (.keep (.keep .nil)))))))))) (fun (z28 : Int) => mb_nil (b := z28) kx_n (.keep (.keep (.keep (.keep (.keep (.keep (.keep (.keep (.keep .nil))))))))))) (fun (z4 : Int) => MB.p1 (mb_set 5 sc_law_used.nd me_int (fun x_law_upto => MB.p1 (mb_set 6 sc_law_used.nd me_int (fun x_law_gone => MB.p1 (mb_for (S' := (fun z5 : (Int × Int × (List Int) × (List Int) × (List Bool)) => [some (.im (Py.r (Gb.mk K mg) (x_law_voucher_here : PyData))), some (.im (Py.r (Gb.mk K mg) (x_law_pieces : (List Int)))), some (.ow (oP (u 2) (oC (wR [("prices" : Str), ("owners" : Str), ("marked" : Str)]) [(oF (rl (Gb.mk K mg) (z5.2.2.1 : (List Int)))), (oF (rl (Gb.mk K mg) (z5.2.2.2.1 : (List Int)))), (oF (rl (Gb.mk K mg) (z5.2.2.2.2 : (List Bool))))]))), some (.im (Py.r (Gb.mk K mg) (x_law_total : Int))), some (.im (Py.r (Gb.mk K mg) (z4 : Int))), some (.im (Py.r (Gb.mk K mg) (z5.1 : Int))), some (.im (Py.r (Gb.mk K mg) (z5.2.1 : Int))), none, none])) (s0 := (x_law_upto, x_law_gone, x_law_state.s.h, x_law_state.s.t.h, x_law_state.s.t.t.h)) PassesOwn.never (mi_lst (ms_im (me_var 1))) (mg_name 7 sc_law_used.nd) (.keep (.keep (.keep (.keep (.keep (.keep (.keep (.keep (.keep .nil))))))))) (fun _ (z5 : (Int × Int × (List Int) × (List Int) × (List Bool))) (x_law_piece : Int) => mb_set 5 sc_law_used.nd (ME.p1 (me_add (me_var 5) (ME.p1 (ME.p1 (me_ix (ME.p1 (me_plF (a := fun _ => (z5.2.2.1 : (List Int))) (mp_key (oj := fun _ => (oF (rl (Gb.mk K mg) (z5.2.2.1 : (List Int))))) hr.units 0 (mp_pin 2 (v0 := u 2) (o1 := (oC (wR [("prices" : Str), ("owners" : Str), ("marked" : Str)]) [(oF (rl (Gb.mk K mg) (z5.2.2.1 : (List Int)))), (oF (rl (Gb.mk K mg) (z5.2.2.2.1 : (List Int)))), (oF (rl (Gb.mk K mg) (z5.2.2.2.2 : (List Bool))))])))))) (me_var 7)))))) (fun x_law_upto => MB.p1 (mb_set 8 sc_law_used.nd me_int (fun x_law_part => MB.p1 (mb_if (S' := (fun z8 : Int => [some (.im (Py.r (Gb.mk K mg) (x_law_voucher_here : PyData))), some (.im (Py.r (Gb.mk K mg) (x_law_pieces : (List Int)))), some (.ow (oP (u 2) (oC (wR [("prices" : Str), ("owners" : Str), ("marked" : Str)]) [(oF (rl (Gb.mk K mg) (z5.2.2.1 : (List Int)))), (oF (rl (Gb.mk K mg) (z5.2.2.2.1 : (List Int)))), (oF (rl (Gb.mk K mg) (z5.2.2.2.2 : (List Bool))))]))), some (.im (Py.r (Gb.mk K mg) (x_law_total : Int))), some (.im (Py.r (Gb.mk K mg) (z4 : Int))), some (.im (Py.r (Gb.mk K mg) (x_law_upto : Int))), some (.im (Py.r (Gb.mk K mg) (z5.2.1 : Int))), some (.im (Py.r (Gb.mk K mg) (x_law_piece : Int))), some (.im (Py.r (Gb.mk K mg) (z8 : Int)))])) (mt_cm (MC.p1 (MC.p1 (mc_gt (me_var 3) me_int)))) (mb_eqS (S' := [some (.im (Py.r (Gb.mk K mg) (x_law_voucher_here : PyData))), some (.im (Py.r (Gb.mk K mg) (x_law_pieces : (List Int)))), some (.ow (oP (u 2) (oC (wR [("prices" : Str), ("owners" : Str), ("marked" : Str)]) [(oF (rl (Gb.mk K mg) (z5.2.2.1 : (List Int)))), (oF (rl (Gb.mk K mg) (z5.2.2.2.1 : (List Int)))), (oF (rl (Gb.mk K mg) (z5.2.2.2.2 : (List Bool))))]))), some (.im (Py.r (Gb.mk K mg) (x_law_total : Int))), some (.im (Py.r (Gb.mk K mg) (z4 : Int))), some (.im (Py.r (Gb.mk K mg) (x_law_upto : Int))), some (.im (Py.r (Gb.mk K mg) (z5.2.1 : Int))), some (.im (Py.r (Gb.mk K mg) (x_law_piece : Int))), some (.im (Py.r (Gb.mk K mg) (x_law_part : Int)))]) rfl (mb_set 8 sc_law_used.nd (ME.p2 (me_sub (ME.p2 (me_div (ME.p1 (ME.p1 (me_mul (me_var 4) (me_var 5)))) (me_var 3))) (me_var 6))) (fun x_law_part => mb_nil (b := x_law_part) kx_n (.keep (.keep (.keep (.keep (.keep (.keep (.keep (.keep (.keep .nil)))))))))))) (mb_nil (b := x_law_part) kx_n (.keep (.keep (.keep (.keep (.keep (.keep (.keep (.keep (.keep .nil)))))))))) (fun (z8 : Int) => MB.p1 (mb_set 6 sc_law_used.nd (ME.p1 (ME.p1 (me_add (me_var 6) (me_var 8)))) (fun x_law_gone => MB.p2 (MB.p2 (mb_setiP (ME.p2 (me_sub (ME.p1 (ME.p1 (me_ix (ME.p1 (me_plF (a := fun _ => (z5.2.2.1 : (List Int))) (mp_key (oj := fun _ => (oF (rl (Gb.mk K mg) (z5.2.2.1 : (List Int))))) hr.units 0 (mp_pin 2 (v0 := u 2) (o1 := (oC (wR [("prices" : Str), ("owners" : Str), ("marked" : Str)]) [(oF (rl (Gb.mk K mg) (z5.2.2.1 : (List Int)))), (oF (rl (Gb.mk K mg) (z5.2.2.2.1 : (List Int)))), (oF (rl (Gb.mk K mg) (z5.2.2.2.2 : (List Bool))))])))))) (me_var 7)))) (me_var 8))) (mp_key (oj := fun _ => (oF (rl (Gb.mk K mg) (z5.2.2.1 : (List Int))))) hr.units 0 (mp_pin 2 (v0 := u 2) (o1 := (oC (wR [("prices" : Str), ("owners" : Str), ("marked" : Str)]) [(oF (rl (Gb.mk K mg) (z5.2.2.1 : (List Int)))), (oF (rl (Gb.mk K mg) (z5.2.2.2.1 : (List Int)))), (oF (rl (Gb.mk K mg) (z5.2.2.2.2 : (List Bool))))])))) (me_var 7) (fun _ x_law_state_0 => mb_if (S' := (fun z14 : ((List Int) × (List Int) × (List Bool)) => [some (.im (Py.r (Gb.mk K mg) (x_law_voucher_here : PyData))), some (.im (Py.r (Gb.mk K mg) (x_law_pieces : (List Int)))), some (.ow (oP (u 2) (oC (wR [("prices" : Str), ("owners" : Str), ("marked" : Str)]) [(oF (rl (Gb.mk K mg) (z14.1 : (List Int)))), (oF (rl (Gb.mk K mg) (z14.2.1 : (List Int)))), (oF (rl (Gb.mk K mg) (z14.2.2 : (List Bool))))]))), some (.im (Py.r (Gb.mk K mg) (x_law_total : Int))), some (.im (Py.r (Gb.mk K mg) (z4 : Int))), some (.im (Py.r (Gb.mk K mg) (x_law_upto : Int))), some (.im (Py.r (Gb.mk K mg) (x_law_gone : Int))), some (.im (Py.r (Gb.mk K mg) (x_law_piece : Int))), some (.im (Py.r (Gb.mk K mg) (z8 : Int)))])) (mt_w (MW.p1 (mw_and (mt_cm (MC.p1 (MC.p1 (mc_gt (me_var 8) me_int)))) (mw_and1 (mt_val (me_asBool (ME.p2 (me_atD (ME.p1 (me_atD (me_var 0) (ME.p2 (me_sub (ME.p1 (me_lenD T.g_len (me_var 0))) me_int)))) me_int)))))))) (MB.p1 (MB.p1 (mb_setiP me_bl (mp_key (oj := fun _ => (oF (rl (Gb.mk K mg) (z5.2.2.2.2 : (List Bool))))) hr.units 2 (mp_pin 2 (v0 := u 2) (o1 := (oC (wR [("prices" : Str), ("owners" : Str), ("marked" : Str)]) [(oF (rl (Gb.mk K mg) (x_law_state_0 : (List Int)))), (oF (rl (Gb.mk K mg) (z5.2.2.2.1 : (List Int)))), (oF (rl (Gb.mk K mg) (z5.2.2.2.2 : (List Bool))))])))) (ME.p1 (ME.p1 (me_ix (ME.p1 (me_plF (a := fun _ => (z5.2.2.2.1 : (List Int))) (mp_key (oj := fun _ => (oF (rl (Gb.mk K mg) (z5.2.2.2.1 : (List Int))))) hr.units 1 (mp_pin 2 (v0 := u 2) (o1 := (oC (wR [("prices" : Str), ("owners" : Str), ("marked" : Str)]) [(oF (rl (Gb.mk K mg) (x_law_state_0 : (List Int)))), (oF (rl (Gb.mk K mg) (z5.2.2.2.1 : (List Int)))), (oF (rl (Gb.mk K mg) (z5.2.2.2.2 : (List Bool))))])))))) (me_var 7)))) (fun _ x_law_state_2 => mb_nil (b := (x_law_state_0, z5.2.2.2.1, x_law_state_2)) kx_n (.keep (.keep (.keep (.keep (.keep (.keep (.keep (.keep (.keep .nil))))))))))))) (mb_nil (b := (x_law_state_0, z5.2.2.2.1, z5.2.2.2.2)) kx_n (.keep (.keep (.keep (.keep (.keep (.keep (.keep (.keep (.keep .nil)))))))))) (fun (z14 : ((List Int) × (List Int) × (List Bool))) => mb_nil (b := (x_law_upto, x_law_gone, z14.1, z14.2.1, z14.2.2)) kx_n (.keep (.keep (.keep (.keep (.keep (.keep (.keep (.drop (.drop .nil))))))))))))))))))))) (fun (z22 : (Int × Int × (List Int) × (List Int) × (List Bool))) => mb_endU (b := (HR.mk (ns := [("prices" : Str), ("owners" : Str), ("marked" : Str)]) (HC.mk z22.2.2.1 (HC.mk z22.2.2.2.1 (HC.mk z22.2.2.2.2 HU.mk))))) (.cons rfl .nil)))))))))))) ?_
  delta M.law_used
  rfl
theorem ok_law_due (T : Tx K mg) : FnOk P w K mg base CX0 3 T.f_law_due T.d_law_due ["_law_world", "_law_order_here"] (spT (Gb.mk K mg) (fun p : (HR [("parents" : Str), ("vouchers" : Str), ("rules" : Str), ("basket" : Str)] (HC (List (Option Int)) (HC (List PyData) (HC (List (T3 Str Int Int)) (HC (T3 (List (T4 Int Int Int (Option Int))) Int Bool) HU))))) × (List Int) × Unit => [.im (Py.r (Gb.mk K mg) p.1), .bw (rl (Gb.mk K mg) p.2.1)]) (fun p => M.law_due p.1 p.2.1) (fun r => .im (Py.r (Gb.mk K mg) (r : (Option (T2 Int Str)))))) := by
  refine fnx_mk T.F_law_due sc_law_due (fun _ => rfl) (fun _ => rfl) (by decide) (fun cdv A outer s H E I p hr => ?_)
  obtain ⟨x_law_world, x_law_order_here, ⟨⟩⟩ := p
  refine MB.eq (mb_set 2 sc_law_due.nd (me_call (ok_law_begun T) hr (by decide) T.m_law_begun T.k_law_begun T.b_law_begun_1 .nil (MA.p1 (ma_cons (args := fun p : Unit => []) (ME.p1 (me_kix (α := (T3 (List (T4 Int Int Int (Option Int))) Int Bool)) (β := (HC (List (Option Int)) (HC (List PyData) (HC (List (T3 Str Int Int)) (HC (T3 (List (T4 Int Int Int (Option Int))) Int Bool) HU))))) (pr := fun t => t.t.t.t.h) hr.units 3 (me_var 0))) co_im (fun _ => ma_nl)))) (fun x_law_state => MB.p1 (mb_forT (S' := (fun z3 : ((List Int) × (List Int) × (List Bool)) => [some (.im (Py.r (Gb.mk K mg) (x_law_world : (HR [("parents" : Str), ("vouchers" : Str), ("rules" : Str), ("basket" : Str)] (HC (List (Option Int)) (HC (List PyData) (HC (List (T3 Str Int Int)) (HC (T3 (List (T4 Int Int Int (Option Int))) Int Bool) HU)))))))), some (.bw (rl (Gb.mk K mg) (x_law_order_here : (List Int)))), some (.ow (oC (wR [("prices" : Str), ("owners" : Str), ("marked" : Str)]) [(oF (rl (Gb.mk K mg) (z3.1 : (List Int)))), (oF (rl (Gb.mk K mg) (z3.2.1 : (List Int)))), (oF (rl (Gb.mk K mg) (z3.2.2 : (List Bool))))])), none, none, none, none, none, none])) (s0 := (x_law_state.s.h, x_law_state.s.t.h, x_law_state.s.t.t.h)) (MI.p1 (mi_enum T.g_enumerate (ms_bw 1))) (mg_t2 3 4 sc_law_due.nd) (.keep (.keep (.keep (.keep (.keep (.keep (.keep (.keep (.keep .nil))))))))) (fun _ (z3 : ((List Int) × (List Int) × (List Bool))) (it4 : (T2 Int Int)) => mb_set 5 sc_law_due.nd (ME.p1 (ME.p1 (me_ix (ME.p1 (me_kix (α := (List PyData)) (β := (HC (List (Option Int)) (HC (List PyData) (HC (List (T3 Str Int Int)) (HC (T3 (List (T4 Int Int Int (Option Int))) Int Bool) HU))))) (pr := fun t => t.t.h) hr.units 1 (me_var 0))) (me_var 4)))) (fun x_law_voucher_here => mb_set 6 sc_law_due.nd (me_viewL (a := (HR.mk (ns := [("prices" : Str), ("owners" : Str), ("marked" : Str)]) (HC.mk z3.1 (HC.mk z3.2.1 (HC.mk z3.2.2 HU.mk))))) 2 (frz_HR (.cons frz_F (.cons frz_F (.cons frz_F (.nil))))) rfl (me_call (ok_law_about T) hr (by decide) T.m_law_about T.k_law_about T.b_law_about_4 .nil (MA.p1 (ma_cons (args := fun p : (List (Option Int)) × (T3 (List (T4 Int Int Int (Option Int))) Int Bool) × (HR [("prices" : Str), ("owners" : Str), ("marked" : Str)] (HC (List Int) (HC (List Int) (HC (List Bool) HU)))) × Unit => [.bw (rl (Gb.mk K mg) p.1), .im (Py.r (Gb.mk K mg) p.2.1), .im (Py.r (Gb.mk K mg) p.2.2.1)]) (me_var 5) co_im (fun _ => (MA.p1 (ma_cons (args := fun p : (T3 (List (T4 Int Int Int (Option Int))) Int Bool) × (HR [("prices" : Str), ("owners" : Str), ("marked" : Str)] (HC (List Int) (HC (List Int) (HC (List Bool) HU)))) × Unit => [.im (Py.r (Gb.mk K mg) p.1), .im (Py.r (Gb.mk K mg) p.2.1)]) (ME.p1 (me_kix (α := (List (Option Int))) (β := (HC (List (Option Int)) (HC (List PyData) (HC (List (T3 Str Int Int)) (HC (T3 (List (T4 Int Int Int (Option Int))) Int Bool) HU))))) (pr := fun t => t.h) hr.units 0 (me_var 0))) (co_bw lr_im) (fun _ => (MA.p1 (ma_cons (args := fun p : (HR [("prices" : Str), ("owners" : Str), ("marked" : Str)] (HC (List Int) (HC (List Int) (HC (List Bool) HU)))) × Unit => [.im (Py.r (Gb.mk K mg) p.1)]) (ME.p1 (me_kix (α := (T3 (List (T4 Int Int Int (Option Int))) Int Bool)) (β := (HC (List (Option Int)) (HC (List PyData) (HC (List (T3 Str Int Int)) (HC (T3 (List (T4 Int Int Int (Option Int))) Int Bool) HU))))) (pr := fun t => t.t.t.t.h) hr.units 3 (me_var 0))) co_im (fun _ => (MA.p1 (ma_cons (args := fun p : Unit => []) (me_var 2) co_im (fun _ => ma_nl)))))))))))))) (fun x_law_pieces => mb_set 7 sc_law_due.nd (me_view (a := (HR.mk (ns := [("prices" : Str), ("owners" : Str), ("marked" : Str)]) (HC.mk z3.1 (HC.mk z3.2.1 (HC.mk z3.2.2 HU.mk))))) 2 (frz_HR (.cons frz_F (.cons frz_F (.cons frz_F (.nil))))) rfl (me_call (ok_law_hindrance T) hr (by decide) T.m_law_hindrance T.k_law_hindrance T.b_law_hindrance_4 .nil (MA.p1 (ma_cons (args := fun p : (T3 (List (T4 Int Int Int (Option Int))) Int Bool) × (List Int) × (HR [("prices" : Str), ("owners" : Str), ("marked" : Str)] (HC (List Int) (HC (List Int) (HC (List Bool) HU)))) × Unit => [.im (Py.r (Gb.mk K mg) p.1), .bw (rl (Gb.mk K mg) p.2.1), .im (Py.r (Gb.mk K mg) p.2.2.1)]) (me_var 5) co_im (fun _ => (MA.p1 (ma_cons (args := fun p : (List Int) × (HR [("prices" : Str), ("owners" : Str), ("marked" : Str)] (HC (List Int) (HC (List Int) (HC (List Bool) HU)))) × Unit => [.bw (rl (Gb.mk K mg) p.1), .im (Py.r (Gb.mk K mg) p.2.1)]) (ME.p1 (me_kix (α := (T3 (List (T4 Int Int Int (Option Int))) Int Bool)) (β := (HC (List (Option Int)) (HC (List PyData) (HC (List (T3 Str Int Int)) (HC (T3 (List (T4 Int Int Int (Option Int))) Int Bool) HU))))) (pr := fun t => t.t.t.t.h) hr.units 3 (me_var 0))) co_im (fun _ => (MA.p1 (ma_cons (args := fun p : (HR [("prices" : Str), ("owners" : Str), ("marked" : Str)] (HC (List Int) (HC (List Int) (HC (List Bool) HU)))) × Unit => [.im (Py.r (Gb.mk K mg) p.1)]) (me_own 6) (co_bw lr_rd) (fun _ => (MA.p1 (ma_cons (args := fun p : Unit => []) (me_var 2) co_im (fun _ => ma_nl))))))))))))) flat_ostr) (fun x_law_word => mb_eqS (S' := [some (.im (Py.r (Gb.mk K mg) (x_law_world : (HR [("parents" : Str), ("vouchers" : Str), ("rules" : Str), ("basket" : Str)] (HC (List (Option Int)) (HC (List PyData) (HC (List (T3 Str Int Int)) (HC (T3 (List (T4 Int Int Int (Option Int))) Int Bool) HU)))))))), some (.bw (rl (Gb.mk K mg) (x_law_order_here : (List Int)))), some (.ow (oC (wR [("prices" : Str), ("owners" : Str), ("marked" : Str)]) [(oF (rl (Gb.mk K mg) (z3.1 : (List Int)))), (oF (rl (Gb.mk K mg) (z3.2.1 : (List Int)))), (oF (rl (Gb.mk K mg) (z3.2.2 : (List Bool))))])), some (.im (Py.r (Gb.mk K mg) (it4.x0 : Int))), some (.im (Py.r (Gb.mk K mg) (it4.x1 : Int))), some (.im (Py.r (Gb.mk K mg) (x_law_voucher_here : PyData))), some (.fr (rl (Gb.mk K mg) (x_law_pieces : (List Int)))), some (.im (Py.r (Gb.mk K mg) (x_law_word : (Option Str)))), none]) rfl (MB.p1 (mb_forP (S' := (fun z5 : (Option Str) => [some (.im (Py.r (Gb.mk K mg) (x_law_world : (HR [("parents" : Str), ("vouchers" : Str), ("rules" : Str), ("basket" : Str)] (HC (List (Option Int)) (HC (List PyData) (HC (List (T3 Str Int Int)) (HC (T3 (List (T4 Int Int Int (Option Int))) Int Bool) HU)))))))), some (.bw (rl (Gb.mk K mg) (x_law_order_here : (List Int)))), some (.ow (oC (wR [("prices" : Str), ("owners" : Str), ("marked" : Str)]) [(oF (rl (Gb.mk K mg) (z3.1 : (List Int)))), (oF (rl (Gb.mk K mg) (z3.2.1 : (List Int)))), (oF (rl (Gb.mk K mg) (z3.2.2 : (List Bool))))])), some (.im (Py.r (Gb.mk K mg) (it4.x0 : Int))), some (.im (Py.r (Gb.mk K mg) (it4.x1 : Int))), some (.im (Py.r (Gb.mk K mg) (x_law_voucher_here : PyData))), some (.fr (rl (Gb.mk K mg) (x_law_pieces : (List Int)))), some (.im (Py.r (Gb.mk K mg) (z5 : (Option Str)))), none])) (s0 := x_law_word) PassesOwn.never (mi_lst (ms_im (ME.p1 (me_kix (α := (List (T3 Str Int Int))) (β := (HC (List (Option Int)) (HC (List PyData) (HC (List (T3 Str Int Int)) (HC (T3 (List (T4 Int Int Int (Option Int))) Int Bool) HU))))) (pr := fun t => t.t.t.h) hr.units 2 (me_var 0))))) (mg_name 8 sc_law_due.nd) (.keep (.keep (.keep (.keep (.keep (.keep (.keep (.keep (.keep .nil))))))))) (fun _ (z5 : (Option Str)) (x_law_rule : (T3 Str Int Int)) => mb_ifS (S' := (fun z6 : (Option Str) => [some (.im (Py.r (Gb.mk K mg) (x_law_world : (HR [("parents" : Str), ("vouchers" : Str), ("rules" : Str), ("basket" : Str)] (HC (List (Option Int)) (HC (List PyData) (HC (List (T3 Str Int Int)) (HC (T3 (List (T4 Int Int Int (Option Int))) Int Bool) HU)))))))), some (.bw (rl (Gb.mk K mg) (x_law_order_here : (List Int)))), some (.ow (oC (wR [("prices" : Str), ("owners" : Str), ("marked" : Str)]) [(oF (rl (Gb.mk K mg) (z3.1 : (List Int)))), (oF (rl (Gb.mk K mg) (z3.2.1 : (List Int)))), (oF (rl (Gb.mk K mg) (z3.2.2 : (List Bool))))])), some (.im (Py.r (Gb.mk K mg) (it4.x0 : Int))), some (.im (Py.r (Gb.mk K mg) (it4.x1 : Int))), some (.im (Py.r (Gb.mk K mg) (x_law_voucher_here : PyData))), some (.fr (rl (Gb.mk K mg) (x_law_pieces : (List Int)))), some (.im (Py.r (Gb.mk K mg) (z6 : (Option Str)))), some (.im (Py.r (Gb.mk K mg) (x_law_rule : (T3 Str Int Int))))])) (mt_w (mw_andP (mt_cm (MC.p1 (MC.p1 (mc_eq (α := Int) hr.units (Nat.le_of_ble_eq_true rfl) (ME.p1 (me_tix 1 (me_var 8) t3_1)) (me_var 4))))) (mw_and1 (mt_cm (MC.p1 (MC.p1 (mc_in (α := Int) hr.units (Nat.le_of_ble_eq_true rfl) (ME.p1 (me_tix 2 (me_var 8) t3_2)) (ME.p1 (ME.p1 (ME.p1 (me_cut (me_bor 1) mo_none (MO.p1 (mo_some (me_var 3)))))))))))))) (MB.p1 (mb_set 7 sc_law_due.nd (ME.p1 (me_some (α := Str) (ME.p1 (me_tix 0 (me_var 8) t3_0)))) (fun x_law_word => mb_nil (b := x_law_word) kx_n (.keep (.keep (.keep (.keep (.keep (.keep (.keep (.keep (.keep .nil)))))))))))) (mb_nil (b := z5) kx_n (.keep (.keep (.keep (.keep (.keep (.keep (.keep (.keep (.keep .nil)))))))))) (fun (z6 : (Option Str)) => mb_ifP (S' := (fun z7 : (Option Str) => [some (.im (Py.r (Gb.mk K mg) (x_law_world : (HR [("parents" : Str), ("vouchers" : Str), ("rules" : Str), ("basket" : Str)] (HC (List (Option Int)) (HC (List PyData) (HC (List (T3 Str Int Int)) (HC (T3 (List (T4 Int Int Int (Option Int))) Int Bool) HU)))))))), some (.bw (rl (Gb.mk K mg) (x_law_order_here : (List Int)))), some (.ow (oC (wR [("prices" : Str), ("owners" : Str), ("marked" : Str)]) [(oF (rl (Gb.mk K mg) (z3.1 : (List Int)))), (oF (rl (Gb.mk K mg) (z3.2.1 : (List Int)))), (oF (rl (Gb.mk K mg) (z3.2.2 : (List Bool))))])), some (.im (Py.r (Gb.mk K mg) (it4.x0 : Int))), some (.im (Py.r (Gb.mk K mg) (it4.x1 : Int))), some (.im (Py.r (Gb.mk K mg) (x_law_voucher_here : PyData))), some (.fr (rl (Gb.mk K mg) (x_law_pieces : (List Int)))), some (.im (Py.r (Gb.mk K mg) (z7 : (Option Str)))), some (.im (Py.r (Gb.mk K mg) (x_law_rule : (T3 Str Int Int))))])) (mt_w (mw_andP (mt_cm (MC.p1 (MC.p1 (mc_eq (α := Str) hr.units (Nat.le_of_ble_eq_true rfl) (ME.p1 (me_tix 0 (me_var 8) t3_0)) me_str)))) (mw_andP (mt_cm (MC.p1 (MC.p1 (mc_eq (α := Int) hr.units (Nat.le_of_ble_eq_true rfl) (ME.p1 (me_tix 2 (me_var 8) t3_2)) (me_var 4))))) (mw_and1 (mt_cm (MC.p1 (MC.p1 (mc_in (α := Int) hr.units (Nat.le_of_ble_eq_true rfl) (ME.p1 (me_tix 1 (me_var 8) t3_1)) (ME.p1 (ME.p1 (ME.p1 (me_cut (me_bor 1) mo_none (MO.p1 (mo_some (me_var 3))))))))))))))) (MB.p1 (mb_set 7 sc_law_due.nd (ME.p1 (me_some (α := Str) me_str)) (fun x_law_word => mb_nil (b := x_law_word) kx_n (.keep (.keep (.keep (.keep (.keep (.keep (.keep (.keep (.keep .nil)))))))))))) (mb_nil (b := z6) kx_n (.keep (.keep (.keep (.keep (.keep (.keep (.keep (.keep (.keep .nil)))))))))) (fun (z7 : (Option Str)) => mb_nil (b := z7) kx_n (.keep (.keep (.keep (.keep (.keep (.keep (.keep (.keep (.drop .nil)))))))))))) (fun (z8 : (Option Str)) => mb_ifP (S' := (fun z9 : (Option Str) => [some (.im (Py.r (Gb.mk K mg) (x_law_world : (HR [("parents" : Str), ("vouchers" : Str), ("rules" : Str), ("basket" : Str)] (HC (List (Option Int)) (HC (List PyData) (HC (List (T3 Str Int Int)) (HC (T3 (List (T4 Int Int Int (Option Int))) Int Bool) HU)))))))), some (.bw (rl (Gb.mk K mg) (x_law_order_here : (List Int)))), some (.ow (oC (wR [("prices" : Str), ("owners" : Str), ("marked" : Str)]) [(oF (rl (Gb.mk K mg) (z3.1 : (List Int)))), (oF (rl (Gb.mk K mg) (z3.2.1 : (List Int)))), (oF (rl (Gb.mk K mg) (z3.2.2 : (List Bool))))])), some (.im (Py.r (Gb.mk K mg) (it4.x0 : Int))), some (.im (Py.r (Gb.mk K mg) (it4.x1 : Int))), some (.im (Py.r (Gb.mk K mg) (x_law_voucher_here : PyData))), some (.fr (rl (Gb.mk K mg) (x_law_pieces : (List Int)))), some (.im (Py.r (Gb.mk K mg) (z9 : (Option Str)))), none])) (mt_cm (MC.p1 (MC.p1 (mc_gt (ME.p1 (ME.p1 (me_cnt (ME.p1 (ME.p1 (ME.p1 (me_cut (me_bor 1) mo_none (MO.p1 (mo_some (me_var 3))))))) (me_var 4)))) me_int)))) (MB.p1 (mb_set 7 sc_law_due.nd (ME.p1 (me_some (α := Str) me_str)) (fun x_law_word => mb_nil (b := x_law_word) kx_n (.keep (.keep (.keep (.keep (.keep (.keep (.keep (.keep (.keep .nil)))))))))))) (mb_nil (b := z8) kx_n (.keep (.keep (.keep (.keep (.keep (.keep (.keep (.keep (.keep .nil)))))))))) (fun (z9 : (Option Str)) => MB.p1 (mb_ift (mt_cm (MC.p1 (mc_ntN (me_var 7)))) (mb_ret kr_c (me_some (α := (T2 Int Str)) (ME.p1 (me_t2 (me_var 3) (ME.p1 (me_get (me_var 7))))))) (mb_frz 6 rfl (mb_pin 2 rfl (fun w19 => mb_callIO (d := (HR.mk (ns := [("prices" : Str), ("owners" : Str), ("marked" : Str)]) (HC.mk z3.1 (HC.mk z3.2.1 (HC.mk z3.2.2 HU.mk))))) (oT := fun x : (HR [("prices" : Str), ("owners" : Str), ("marked" : Str)] (HC (List Int) (HC (List Int) (HC (List Bool) HU)))) => (oC (wR [("prices" : Str), ("owners" : Str), ("marked" : Str)]) [(oF (rl (Gb.mk K mg) (x.s.h : (List Int)))), (oF (rl (Gb.mk K mg) (x.s.t.h : (List Int)))), (oF (rl (Gb.mk K mg) (x.s.t.t.h : (List Bool))))])) (pr := fun p : PyData × (List Int) × (HR [("prices" : Str), ("owners" : Str), ("marked" : Str)] (HC (List Int) (HC (List Int) (HC (List Bool) HU)))) × Unit => p.2.2.1) (or := fun r : (HR [("prices" : Str), ("owners" : Str), ("marked" : Str)] (HC (List Int) (HC (List Int) (HC (List Bool) HU)))) => (oC (wR [("prices" : Str), ("owners" : Str), ("marked" : Str)]) [(oF (rl (Gb.mk K mg) (r.s.h : (List Int)))), (oF (rl (Gb.mk K mg) (r.s.t.h : (List Int)))), (oF (rl (Gb.mk K mg) (r.s.t.t.h : (List Bool))))])) 2 2 (ok_law_used T) hr (by decide) T.m_law_used T.k_law_used T.b_law_used_3 .nil (MA.p1 (ma_cons (args := fun p : (List Int) × (HR [("prices" : Str), ("owners" : Str), ("marked" : Str)] (HC (List Int) (HC (List Int) (HC (List Bool) HU)))) × Unit => [.im (Py.r (Gb.mk K mg) p.1), .im (eqD (w19) ((HR.mk (ns := [("prices" : Str), ("owners" : Str), ("marked" : Str)]) (HC.mk z3.1 (HC.mk z3.2.1 (HC.mk z3.2.2 HU.mk))))) p.2.1)]) (me_var 5) co_im (fun _ => (MA.p1 (ma_cons (args := fun p : (HR [("prices" : Str), ("owners" : Str), ("marked" : Str)] (HC (List Int) (HC (List Int) (HC (List Bool) HU)))) × Unit => [.im (eqD (w19) ((HR.mk (ns := [("prices" : Str), ("owners" : Str), ("marked" : Str)]) (HC.mk z3.1 (HC.mk z3.2.1 (HC.mk z3.2.2 HU.mk))))) p.1)]) (me_var 6) co_im (fun _ => (MA.p1 (ma_cons (args := fun p : Unit => []) (me_pind 2 ((HR.mk (ns := [("prices" : Str), ("owners" : Str), ("marked" : Str)]) (HC.mk z3.1 (HC.mk z3.2.1 (HC.mk z3.2.2 HU.mk)))))) co_eq (fun _ => ma_nl))))))))) (fun x_law_state => mb_unpin 2 rfl (mb_nil (b := (x_law_state.s.h, x_law_state.s.t.h, x_law_state.s.t.t.h)) kx_c (.keep (.keep (.keep (.drop (.drop (.drop (.drop (.drop (.keep .nil)))))))))))))) (hk_c (by repeat (first | exact nn_rt | exact nn_ct | exact nn_bk | refine nn_ite ?_ ?_ | refine nn_bind fun _ => ?_)))))))))))) (fun (z20 : ((List Int) × (List Int) × (List Bool))) => mb_retT me_non)))) ?_
  delta M.law_due
  rfl
theorem ok_law_alike (T : Tx K mg) : ∀ fu : Nat, FnOk P w K mg base CX0 (1 + fu) T.f_law_alike T.d_law_alike ["_law_found", "_law_due_here"] (spT (Gb.mk K mg) (fun p : PyData × PyData × Unit => [.im (Py.r (Gb.mk K mg) p.1), .im (Py.r (Gb.mk K mg) p.2.1)]) (fun p => M.law_alike fu p.1 p.2.1) (fun r => .im (Py.r (Gb.mk K mg) (r : Bool)))) := by
  intro fu
  induction fu with
 | zero =>
    refine fnx_mk (k := 0) T.F_law_alike sc_law_alike (fun _ => rfl) (fun _ => rfl) (by decide) (fun cdv A outer s H E I p hr => ?_)
    obtain ⟨x_law_found, x_law_due_here, ⟨⟩⟩ := p
    exact MB.eq mb_dead (by rw [M.law_alike])
 | succ fu ih =>
    refine fnx_mk (k := 1 + fu) T.F_law_alike sc_law_alike (fun _ => rfl) (fun _ => rfl) (by decide) (fun cdv A outer s H E I p hr => ?_)
    obtain ⟨x_law_found, x_law_due_here, ⟨⟩⟩ := p
    refine MB.eq (MB.p1 (mb_ift (mt_val (ME.p1 (me_isiG2 (Tx := "list") (Ty := "tuple") (b1 := isiD_list) (b2 := isiD_tuple) T.g_isinstance T.g_list T.g_tuple (me_var 1) tg_dy kitD_list kitD_tuple (by decide +kernel) (by decide +kernel)))) (MB.p1 (mb_ift (mt_w (mw_orP (mt_cm (MC.p1 (MC.p1 (mc_ne (α := Bool) hr.units (Nat.le_of_ble_eq_true rfl) (ME.p1 (me_isiG (Ty := "list") (bf := isiD_list) T.g_isinstance T.g_list (me_var 0) tg_dy kitD_list (by decide +kernel))) (ME.p1 (me_isiG (Ty := "list") (bf := isiD_list) T.g_isinstance T.g_list (me_var 1) tg_dy kitD_list (by decide +kernel))))))) (mw_or1 (mt_cm (MC.p1 (MC.p1 (mc_ne (α := Bool) hr.units (Nat.le_of_ble_eq_true rfl) (ME.p1 (me_isiG (Ty := "tuple") (bf := isiD_tuple) T.g_isinstance T.g_tuple (me_var 0) tg_dy kitD_tuple (by decide +kernel))) (ME.p1 (me_isiG (Ty := "tuple") (bf := isiD_tuple) T.g_isinstance T.g_tuple (me_var 1) tg_dy kitD_tuple (by decide +kernel)))))))))) (mb_retT me_bl) (mb_retT (me_and (me_cm (mc_eq (α := Int) hr.units (Nat.le_of_ble_eq_true rfl) (ME.p1 (me_lenD T.g_len (me_var 0))) (ME.p1 (me_lenD T.g_len (me_var 1))))) (me_one (me_all T.g_all (me_lc (α := (T2 PyData PyData)) (own := [("_law_one", 2), ("_law_other", 3)]) sc_law_alike.nd (MI.p1 (MI.p1 (mi_zipD T.g_zip (me_var 0) (me_var 1)))) (by first | (show blkC ["_law_found", "_law_due_here", "_law_one", "_law_other"] (defScope s_law_alike) _ _ = true; decide +kernel) | rfl) (by decide) (fun _ _ _ _ _ => (mg_t2 2 3 sc_law_alike.nd)) (fun _ _ _ _ _ (it3 : (T2 PyData PyData)) => (me_call ih hr (by omega) T.m_law_alike T.k_law_alike T.b_law_alike_2 .nil (MA.p1 (ma_cons (args := fun p : PyData × Unit => [.im (Py.r (Gb.mk K mg) p.1)]) (me_var 2) co_im (fun _ => (MA.p1 (ma_cons (args := fun p : Unit => []) (me_var 3) co_im (fun _ => ma_nl))))))))))))) hk_t)) (MB.p1 (mb_ift (mt_cm (MC.p1 (mc_isND (me_var 1)))) (mb_retT (me_cm (MC.p1 (mc_isND (me_var 0))))) (MB.p1 (mb_ift (mt_val (ME.p1 (me_isiG (Ty := "bool") (bf := isiD_bool) T.g_isinstance T.g_bool (me_var 1) tg_dy kitD_bool (by decide +kernel)))) (mb_retT (ME.p1 (me_and (ME.p1 (me_isiG (Ty := "bool") (bf := isiD_bool) T.g_isinstance T.g_bool (me_var 0) tg_dy kitD_bool (by decide +kernel))) (me_one (me_cm (MC.p1 (MC.p1 (mc_eqD hr.units (me_var 0) (me_var 1))))))))) (MB.p1 (mb_ift (mt_val (ME.p1 (me_isiG (Ty := "str") (bf := isiD_str) T.g_isinstance T.g_str (me_var 1) tg_dy kitD_str (by decide +kernel)))) (mb_eqS (S' := [some (.im (Py.r (Gb.mk K mg) (x_law_found : PyData))), some (.im (Py.r (Gb.mk K mg) (x_law_due_here : PyData))), none, none]) rfl (mb_retT (ME.p1 (me_and (ME.p1 (me_isiG (Ty := "str") (bf := isiD_str) T.g_isinstance T.g_str (me_var 0) tg_dy kitD_str (by decide +kernel))) (me_one (me_cm (MC.p1 (MC.p1 (mc_eqD hr.units (me_var 0) (me_var 1)))))))))) (mb_eqS (S' := [some (.im (Py.r (Gb.mk K mg) (x_law_found : PyData))), some (.im (Py.r (Gb.mk K mg) (x_law_due_here : PyData))), none, none]) rfl (mb_retT (ME.p1 (me_and (ME.p1 (me_isiG (Ty := "int") (bf := isiD_int) T.g_isinstance T.g_int (me_var 0) tg_dy kitD_int (by decide +kernel))) (ME.p1 (me_and (ME.p1 (me_not (ME.p1 (me_isiG (Ty := "bool") (bf := isiD_bool) T.g_isinstance T.g_bool (me_var 0) tg_dy kitD_bool (by decide +kernel))))) (me_one (me_cm (MC.p1 (MC.p1 (mc_eqD hr.units (me_var 0) (me_var 1)))))))))))) hk_t)) hk_t)) hk_t)) hk_t)) ?_
    show _ = M.law_alike (fu + 1) x_law_found x_law_due_here
    first | (rw [M.law_alike]; done) | (rw [M.law_alike]; rfl)
theorem ok_law (T : Tx K mg) : FnOk P w K mg base CX0 26 T.f_law T.d_law ["_law_script"] (spT (Gb.mk K mg) (fun p : (List Int) × Unit => [.bw (rl (Gb.mk K mg) p.1)]) (fun p => M.law p.1) (fun r => .im (Py.r (Gb.mk K mg) (r : Bool)))) := by
  refine fnx_mk T.F_law sc_law (fun _ => rfl) (fun _ => rfl) (by decide) (fun cdv A outer s H E I p hr => ?_)
  obtain ⟨x_law_script, ⟨⟩⟩ := p
  refine MB.eq (mb_set 1 sc_law.nd (me_call (ok_law_cell T) hr (by decide) T.m_law_cell T.k_law_cell T.b_law_cell_2 .nil (MA.p1 (ma_cons (args := fun p : Int × Unit => [.im (Py.r (Gb.mk K mg) p.1)]) (me_bor 0) (co_bw lr_rd) (fun _ => (MA.p1 (ma_cons (args := fun p : Unit => []) me_int co_im (fun _ => ma_nl))))))) (fun x_law_cell_here => mb_set 2 sc_law.nd (me_disR (MRO.p2 (mro_cons (me_call (ok_law_parents T) hr (by decide) T.m_law_parents T.k_law_parents T.b_law_parents_1 .nil (MA.p1 (ma_cons (args := fun p : Unit => []) (me_var 1) co_im (fun _ => ma_nl)))) (MRO.p1 (MRO.p1 (mro_cons (me_lst (α := PyData) ml_nil) (MRO.p1 (MRO.p1 (mro_cons (me_lst (α := (T3 Str Int Int)) ml_nil) mro_nil))))))))) (fun x_law_world => MB.p1 (mb_set 3 sc_law.nd (ME.p1 (me_len T.g_len (ME.p1 (me_plF (a := fun _ => (x_law_world.s.h : (List (Option Int)))) (mp_key (oj := fun _ => (oF (rl (Gb.mk K mg) (x_law_world.s.h : (List (Option Int)))))) hr.units 0 (mp_ow 2 (o1 := (oC (wR [("parents" : Str), ("vouchers" : Str), ("rules" : Str)]) [(oF (rl (Gb.mk K mg) (x_law_world.s.h : (List (Option Int))))), (oF (rl (Gb.mk K mg) (x_law_world.s.t.h : (List PyData)))), (oF (rl (Gb.mk K mg) (x_law_world.s.t.t.h : (List (T3 Str Int Int)))))])))))))) (fun x_law_kinds => MB.p2 (mb_keyN hr.units (me_call (ok_law_basket T) hr (by decide) T.m_law_basket T.k_law_basket T.b_law_basket_3 .nil (ma_cons (args := fun p : Int × Bool × Unit => [.im (Py.r (Gb.mk K mg) p.1), .im (Py.r (Gb.mk K mg) p.2.1)]) (me_call (ok_law_cell T) hr (by decide) T.m_law_cell T.k_law_cell T.b_law_cell_2 .nil (MA.p1 (ma_cons (args := fun p : Int × Unit => [.im (Py.r (Gb.mk K mg) p.1)]) (me_bor 0) (co_bw lr_rd) (fun _ => (MA.p1 (ma_cons (args := fun p : Unit => []) me_int co_im (fun _ => ma_nl))))))) co_im (fun _ => (MA.p1 (ma_cons (args := fun p : Bool × Unit => [.im (Py.r (Gb.mk K mg) p.1)]) (me_var 3) co_im (fun _ => (MA.p1 (ma_cons (args := fun p : Unit => []) (me_cm (MC.p1 (MC.p1 (mc_eq (α := Int) hr.units (Nat.le_of_ble_eq_true rfl) (ME.p1 (me_modC (n := 2) (by decide) (me_var 1) me_int)) me_int)))) co_im (fun _ => ma_nl))))))))) (mp_ow 2 (o1 := (oC (wR [("parents" : Str), ("vouchers" : Str), ("rules" : Str)]) [(oF (rl (Gb.mk K mg) (x_law_world.s.h : (List (Option Int))))), (oF (rl (Gb.mk K mg) (x_law_world.s.t.h : (List PyData)))), (oF (rl (Gb.mk K mg) (x_law_world.s.t.t.h : (List (T3 Str Int Int)))))]))) (fun _ v4 => mb_eqS (S' := [some (.bw (rl (Gb.mk K mg) (x_law_script : (List Int)))), some (.im (Py.r (Gb.mk K mg) (x_law_cell_here : Int))), some (.ow (oC (wR [("parents" : Str), ("vouchers" : Str), ("rules" : Str), ("basket" : Str)]) [(oF (rl (Gb.mk K mg) (x_law_world.s.h : (List (Option Int))))), (oF (rl (Gb.mk K mg) (x_law_world.s.t.h : (List PyData)))), (oF (rl (Gb.mk K mg) (x_law_world.s.t.t.h : (List (T3 Str Int Int))))), (oI (Py.r (Gb.mk K mg) (v4 : (T3 (List (T4 Int Int Int (Option Int))) Int Bool))))])), some (.im (Py.r (Gb.mk K mg) (x_law_kinds : Int))), none, none, none, none, none, none, none, none, none, none]) rfl (mb_set 4 sc_law.nd (me_sum T.g_sum (me_kix (α := (List Int)) (β := (HC (List Int) (HC (List Int) (HC (List Bool) HU)))) (pr := fun t => t.h) hr.units 0 (me_frzO (fun _ => (frz_HR (.cons frz_F (.cons frz_F (.cons frz_F (.nil)))))) (me_call (ok_law_begun T) hr (by decide) T.m_law_begun T.k_law_begun T.b_law_begun_1 .nil (MA.p1 (ma_cons (args := fun p : Unit => []) (ME.p1 (me_plI (a := fun _ => (v4 : (T3 (List (T4 Int Int Int (Option Int))) Int Bool))) (mp_key (oj := fun _ => (oI (Py.r (Gb.mk K mg) (v4 : (T3 (List (T4 Int Int Int (Option Int))) Int Bool))))) hr.units 3 (mp_ow 2 (o1 := (oC (wR [("parents" : Str), ("vouchers" : Str), ("rules" : Str), ("basket" : Str)]) [(oF (rl (Gb.mk K mg) (x_law_world.s.h : (List (Option Int))))), (oF (rl (Gb.mk K mg) (x_law_world.s.t.h : (List PyData)))), (oF (rl (Gb.mk K mg) (x_law_world.s.t.t.h : (List (T3 Str Int Int))))), (oI (Py.r (Gb.mk K mg) (v4 : (T3 (List (T4 Int Int Int (Option Int))) Int Bool))))])))))) co_im (fun _ => ma_nl))))))) (fun x_law_total => mb_set 5 sc_law.nd (ME.p1 (me_ix (me_lst (α := Int) (ML.p1 (ML.p1 (ml_cons me_int (ML.p1 (ML.p1 (ml_cons me_int (ML.p1 (ML.p1 (ml_cons me_int (ML.p1 (ML.p1 (ml_cons me_int (ML.p1 (ML.p1 (ml_cons me_int (ML.p1 (ML.p1 (ml_cons me_int ml_nil))))))))))))))))))) (me_modC (n := 6) (by decide) (me_call (ok_law_mixed T) hr (by decide) T.m_law_mixed T.k_law_mixed T.b_law_mixed_2 .nil (MA.p1 (ma_cons (args := fun p : Int × Unit => [.im (Py.r (Gb.mk K mg) p.1)]) (me_var 1) co_im (fun _ => (MA.p1 (ma_cons (args := fun p : Unit => []) me_int co_im (fun _ => ma_nl))))))) me_int))) (fun x_law_many => mb_for (S' := (fun z13 : ((List (Option Int)) × (List PyData) × (List (T3 Str Int Int)) × (T3 (List (T4 Int Int Int (Option Int))) Int Bool)) => [some (.bw (rl (Gb.mk K mg) (x_law_script : (List Int)))), some (.im (Py.r (Gb.mk K mg) (x_law_cell_here : Int))), some (.ow (oC (wR [("parents" : Str), ("vouchers" : Str), ("rules" : Str), ("basket" : Str)]) [(oF (rl (Gb.mk K mg) (z13.1 : (List (Option Int))))), (oF (rl (Gb.mk K mg) (z13.2.1 : (List PyData)))), (oF (rl (Gb.mk K mg) (z13.2.2.1 : (List (T3 Str Int Int))))), (oI (Py.r (Gb.mk K mg) (z13.2.2.2 : (T3 (List (T4 Int Int Int (Option Int))) Int Bool))))])), some (.im (Py.r (Gb.mk K mg) (x_law_kinds : Int))), some (.im (Py.r (Gb.mk K mg) (x_law_total : Int))), some (.im (Py.r (Gb.mk K mg) (x_law_many : Int))), none, none, none, none, none, none, none, none])) (s0 := (x_law_world.s.h, x_law_world.s.t.h, x_law_world.s.t.t.h, v4)) PassesOwn.never (MI.p1 (mi_rng1 T.g_range (me_var 5))) (mg_name 6 sc_law.nd) (.keep (.keep (.keep (.keep (.keep (.keep (.keep (.keep (.keep (.keep (.keep (.keep (.keep (.keep .nil)))))))))))))) (fun _ (z13 : ((List (Option Int)) × (List PyData) × (List (T3 Str Int Int)) × (T3 (List (T4 Int Int Int (Option Int))) Int Bool))) (x_law_k : Int) => MB.p1 (mb_appP (mp_key (oj := fun _ => (oF (rl (Gb.mk K mg) (z13.2.1 : (List PyData))))) hr.units 1 (mp_ow 2 (o1 := (oC (wR [("parents" : Str), ("vouchers" : Str), ("rules" : Str), ("basket" : Str)]) [(oF (rl (Gb.mk K mg) (z13.1 : (List (Option Int))))), (oF (rl (Gb.mk K mg) (z13.2.1 : (List PyData)))), (oF (rl (Gb.mk K mg) (z13.2.2.1 : (List (T3 Str Int Int))))), (oI (Py.r (Gb.mk K mg) (z13.2.2.2 : (T3 (List (T4 Int Int Int (Option Int))) Int Bool))))])))) (me_call (ok_law_voucher T) hr (by decide) T.m_law_voucher T.k_law_voucher T.b_law_voucher_4 .nil (ma_cons (args := fun p : Int × Bool × Int × Unit => [.im (Py.r (Gb.mk K mg) p.1), .im (Py.r (Gb.mk K mg) p.2.1), .im (Py.r (Gb.mk K mg) p.2.2.1)]) (ME.p2 (me_add (me_call (ok_law_cell T) hr (by decide) T.m_law_cell T.k_law_cell T.b_law_cell_2 .nil (MA.p1 (ma_cons (args := fun p : Int × Unit => [.im (Py.r (Gb.mk K mg) p.1)]) (me_bor 0) (co_bw lr_rd) (fun _ => (MA.p1 (ma_cons (args := fun p : Unit => []) (ME.p1 (ME.p1 (me_add me_int (me_var 6)))) co_im (fun _ => ma_nl))))))) (ME.p1 (me_mulD (n := 11) (by decide) me_int (me_var 6))))) co_im (fun _ => (MA.p1 (ma_cons (args := fun p : Bool × Int × Unit => [.im (Py.r (Gb.mk K mg) p.1), .im (Py.r (Gb.mk K mg) p.2.1)]) (me_var 3) co_im (fun _ => (MA.p1 (ma_cons (args := fun p : Int × Unit => [.im (Py.r (Gb.mk K mg) p.1)]) (me_cm (MC.p1 (MC.p1 (mc_eq (α := Int) hr.units (Nat.le_of_ble_eq_true rfl) (ME.p1 (me_modC (n := 2) (by decide) (me_var 1) me_int)) me_int)))) co_im (fun _ => (MA.p1 (ma_cons (args := fun p : Unit => []) (me_var 4) co_im (fun _ => ma_nl)))))))))))) (fun _ x_law_world_1 => mb_nil (b := (z13.1, x_law_world_1, z13.2.2.1, z13.2.2.2)) kx_n (.keep (.keep (.keep (.keep (.keep (.keep (.drop (.keep (.keep (.keep (.keep (.keep (.keep (.keep .nil))))))))))))))))) (fun (z17 : ((List (Option Int)) × (List PyData) × (List (T3 Str Int Int)) × (T3 (List (T4 Int Int Int (Option Int))) Int Bool))) => mb_set 7 sc_law.nd (me_call (ok_law_mixed T) hr (by decide) T.m_law_mixed T.k_law_mixed T.b_law_mixed_2 .nil (MA.p1 (ma_cons (args := fun p : Int × Unit => [.im (Py.r (Gb.mk K mg) p.1)]) (me_var 1) co_im (fun _ => (MA.p1 (ma_cons (args := fun p : Unit => []) me_int co_im (fun _ => ma_nl))))))) (fun x_law_drawn => MB.p1 (mb_if (S' := (fun z18 : ((List (Option Int)) × (List PyData) × (List (T3 Str Int Int)) × (T3 (List (T4 Int Int Int (Option Int))) Int Bool)) => [some (.bw (rl (Gb.mk K mg) (x_law_script : (List Int)))), some (.im (Py.r (Gb.mk K mg) (x_law_cell_here : Int))), some (.ow (oC (wR [("parents" : Str), ("vouchers" : Str), ("rules" : Str), ("basket" : Str)]) [(oF (rl (Gb.mk K mg) (z18.1 : (List (Option Int))))), (oF (rl (Gb.mk K mg) (z18.2.1 : (List PyData)))), (oF (rl (Gb.mk K mg) (z18.2.2.1 : (List (T3 Str Int Int))))), (oI (Py.r (Gb.mk K mg) (z18.2.2.2 : (T3 (List (T4 Int Int Int (Option Int))) Int Bool))))])), some (.im (Py.r (Gb.mk K mg) (x_law_kinds : Int))), some (.im (Py.r (Gb.mk K mg) (x_law_total : Int))), some (.im (Py.r (Gb.mk K mg) (x_law_many : Int))), none, some (.im (Py.r (Gb.mk K mg) (x_law_drawn : Int))), none, none, none, none, none, none])) (mt_cm (MC.p1 (MC.p1 (mc_eq (α := Int) hr.units (Nat.le_of_ble_eq_true rfl) (ME.p1 (me_modC (n := 3) (by decide) (me_var 7) me_int)) me_int)))) (MB.p1 (mb_appP (mp_key (oj := fun _ => (oF (rl (Gb.mk K mg) (z17.2.2.1 : (List (T3 Str Int Int)))))) hr.units 2 (mp_ow 2 (o1 := (oC (wR [("parents" : Str), ("vouchers" : Str), ("rules" : Str), ("basket" : Str)]) [(oF (rl (Gb.mk K mg) (z17.1 : (List (Option Int))))), (oF (rl (Gb.mk K mg) (z17.2.1 : (List PyData)))), (oF (rl (Gb.mk K mg) (z17.2.2.1 : (List (T3 Str Int Int))))), (oI (Py.r (Gb.mk K mg) (z17.2.2.2 : (T3 (List (T4 Int Int Int (Option Int))) Int Bool))))])))) (me_t3 (ME.p1 (ME.p1 (me_ix (me_lst (α := Str) (ML.p1 (ML.p1 (ml_cons me_str (ML.p1 (ML.p1 (ml_cons me_str ml_nil))))))) (ME.p1 (me_modC (n := 2) (by decide) (ME.p1 (me_divC (n := 3) (by decide) (me_var 7) me_int)) me_int))))) (ME.p1 (ME.p1 (me_mod (ME.p1 (me_divC (n := 6) (by decide) (me_var 7) me_int)) (me_var 5)))) (ME.p1 (ME.p1 (me_mod (ME.p1 (me_divC (n := 60) (by decide) (me_var 7) me_int)) (me_var 5))))) (fun _ x_law_world_2 => mb_nil (b := (z17.1, z17.2.1, x_law_world_2, z17.2.2.2)) kx_n (.keep (.keep (.keep (.keep (.keep (.keep (.keep (.keep (.keep (.keep (.keep (.keep (.keep (.keep .nil))))))))))))))))) (mb_nil (b := (z17.1, z17.2.1, z17.2.2.1, z17.2.2.2)) kx_n (.keep (.keep (.keep (.keep (.keep (.keep (.keep (.keep (.keep (.keep (.keep (.keep (.keep (.keep .nil))))))))))))))) (fun (z18 : ((List (Option Int)) × (List PyData) × (List (T3 Str Int Int)) × (T3 (List (T4 Int Int Int (Option Int))) Int Bool))) => MB.p1 (mb_if (S' := (fun z19 : ((List (Option Int)) × (List PyData) × (List (T3 Str Int Int)) × (T3 (List (T4 Int Int Int (Option Int))) Int Bool)) => [some (.bw (rl (Gb.mk K mg) (x_law_script : (List Int)))), some (.im (Py.r (Gb.mk K mg) (x_law_cell_here : Int))), some (.ow (oC (wR [("parents" : Str), ("vouchers" : Str), ("rules" : Str), ("basket" : Str)]) [(oF (rl (Gb.mk K mg) (z19.1 : (List (Option Int))))), (oF (rl (Gb.mk K mg) (z19.2.1 : (List PyData)))), (oF (rl (Gb.mk K mg) (z19.2.2.1 : (List (T3 Str Int Int))))), (oI (Py.r (Gb.mk K mg) (z19.2.2.2 : (T3 (List (T4 Int Int Int (Option Int))) Int Bool))))])), some (.im (Py.r (Gb.mk K mg) (x_law_kinds : Int))), some (.im (Py.r (Gb.mk K mg) (x_law_total : Int))), some (.im (Py.r (Gb.mk K mg) (x_law_many : Int))), none, some (.im (Py.r (Gb.mk K mg) (x_law_drawn : Int))), none, none, none, none, none, none])) (mt_cm (MC.p1 (MC.p1 (mc_eq (α := Int) hr.units (Nat.le_of_ble_eq_true rfl) (ME.p1 (me_modC (n := 3) (by decide) (me_var 1) me_int)) me_int)))) (MB.p2 (MB.p2 (mb_setiP (ME.p1 (ME.p1 (me_ix (ME.p1 (me_plF (a := fun _ => (z18.2.1 : (List PyData))) (mp_key (oj := fun _ => (oF (rl (Gb.mk K mg) (z18.2.1 : (List PyData))))) hr.units 1 (mp_ow 2 (o1 := (oC (wR [("parents" : Str), ("vouchers" : Str), ("rules" : Str), ("basket" : Str)]) [(oF (rl (Gb.mk K mg) (z18.1 : (List (Option Int))))), (oF (rl (Gb.mk K mg) (z18.2.1 : (List PyData)))), (oF (rl (Gb.mk K mg) (z18.2.2.1 : (List (T3 Str Int Int))))), (oI (Py.r (Gb.mk K mg) (z18.2.2.2 : (T3 (List (T4 Int Int Int (Option Int))) Int Bool))))])))))) me_int))) (mp_key (oj := fun _ => (oF (rl (Gb.mk K mg) (z18.2.1 : (List PyData))))) hr.units 1 (mp_ow 2 (o1 := (oC (wR [("parents" : Str), ("vouchers" : Str), ("rules" : Str), ("basket" : Str)]) [(oF (rl (Gb.mk K mg) (z18.1 : (List (Option Int))))), (oF (rl (Gb.mk K mg) (z18.2.1 : (List PyData)))), (oF (rl (Gb.mk K mg) (z18.2.2.1 : (List (T3 Str Int Int))))), (oI (Py.r (Gb.mk K mg) (z18.2.2.2 : (T3 (List (T4 Int Int Int (Option Int))) Int Bool))))])))) (ME.p1 (ME.p1 (me_sub (me_var 5) me_int))) (fun _ x_law_world_1 => mb_nil (b := (z18.1, x_law_world_1, z18.2.2.1, z18.2.2.2)) kx_n (.keep (.keep (.keep (.keep (.keep (.keep (.keep (.keep (.keep (.keep (.keep (.keep (.keep (.keep .nil)))))))))))))))))) (mb_nil (b := (z18.1, z18.2.1, z18.2.2.1, z18.2.2.2)) kx_n (.keep (.keep (.keep (.keep (.keep (.keep (.keep (.keep (.keep (.keep (.keep (.keep (.keep (.keep .nil))))))))))))))) (fun (z19 : ((List (Option Int)) × (List PyData) × (List (T3 Str Int Int)) × (T3 (List (T4 Int Int Int (Option Int))) Int Bool))) => mb_frzO (a := (HR.mk (ns := [("parents" : Str), ("vouchers" : Str), ("rules" : Str), ("basket" : Str)]) (HC.mk z19.1 (HC.mk z19.2.1 (HC.mk z19.2.2.1 (HC.mk z19.2.2.2 HU.mk)))))) 2 (frz_HR (.cons frz_F (.cons frz_F (.cons frz_F (.cons frz_I (.nil)))))) rfl (MB.p1 (mb_setLc 8 (α := PyData) (own := [("_law_told", 13)]) sc_law.nd  rfl (sw_true rfl rfl rfl (by decide +kernel)) (mi_lst (ms_im (ME.p1 (me_kix (α := (List PyData)) (β := (HC (List (Option Int)) (HC (List PyData) (HC (List (T3 Str Int Int)) (HC (T3 (List (T4 Int Int Int (Option Int))) Int Bool) HU))))) (pr := fun t => t.t.h) hr.units 1 (me_var 2))))) (by first | (show blkC ["_law_script", "_law_cell_here", "_law_world", "_law_kinds", "_law_total", "_law_many", "_law_k", "_law_drawn", "_law_own", "_law_till", "_law_basket_here", "_law_one", "_law_order_here", "_law_told"] (defScope s_law) _ _ = true; decide +kernel) | rfl) (by decide) (fun _ _ _ _ _ => (mg_name 13 sc_law.nd)) (fun _ _ _ _ _ (x_law_told : PyData) => (me_call (ok_law_made T) hr (by decide) T.m_law_made T.k_law_made T.b_law_made_1 .nil (MA.p1 (ma_cons (args := fun p : Unit => []) (me_var 13) co_im (fun _ => ma_nl))))) (fun x_law_own => MB.p1 (mb_if (S' := (fun z20 : (List VoucherD) => [some (.bw (rl (Gb.mk K mg) (x_law_script : (List Int)))), some (.im (Py.r (Gb.mk K mg) (x_law_cell_here : Int))), some (.im (Py.r (Gb.mk K mg) ((HR.mk (ns := [("parents" : Str), ("vouchers" : Str), ("rules" : Str), ("basket" : Str)]) (HC.mk z19.1 (HC.mk z19.2.1 (HC.mk z19.2.2.1 (HC.mk z19.2.2.2 HU.mk))))) : (HR [("parents" : Str), ("vouchers" : Str), ("rules" : Str), ("basket" : Str)] (HC (List (Option Int)) (HC (List PyData) (HC (List (T3 Str Int Int)) (HC (T3 (List (T4 Int Int Int (Option Int))) Int Bool) HU)))))))), some (.im (Py.r (Gb.mk K mg) (x_law_kinds : Int))), some (.im (Py.r (Gb.mk K mg) (x_law_total : Int))), some (.im (Py.r (Gb.mk K mg) (x_law_many : Int))), none, some (.im (Py.r (Gb.mk K mg) (x_law_drawn : Int))), some (.fr (rl (Gb.mk K mg) (z20 : (List VoucherD)))), none, none, none, none, none])) (mt_cm (MC.p1 (MC.p1 (mc_eq (α := Int) hr.units (Nat.le_of_ble_eq_true rfl) (ME.p1 (me_modC (n := 3) (by decide) (me_var 1) me_int)) me_int)))) (MB.p2 (mb_seti 8 (ME.p1 (ME.p1 (me_ix (me_own 8) me_int))) (ME.p1 (ME.p1 (me_sub (me_var 5) me_int))) (fun x_law_own => mb_nil (b := x_law_own) kx_n (.keep (.keep (.keep (.keep (.keep (.keep (.keep (.keep (.keep (.keep (.keep (.keep (.keep (.keep .nil))))))))))))))))) (mb_nil (b := x_law_own) kx_n (.keep (.keep (.keep (.keep (.keep (.keep (.keep (.keep (.keep (.keep (.keep (.keep (.keep (.keep .nil))))))))))))))) (fun (z20 : (List VoucherD)) => MB.p1 (mb_set 9 sc_law.nd (me_make (or := fun r => o_Till K mg r) (ok_Till_init T) hr (by decide) T.mk_Till T.m_Till T.b_Till_init_4 T.v_Till_init_4 (MA.p1 (ma_cons (args := fun p : (List VoucherD) × (List (T3 Str Int Int)) × Str × Unit => [.bw (rl (Gb.mk K mg) p.1), .bw (rl (Gb.mk K mg) p.2.1), .im (Py.r (Gb.mk K mg) p.2.2.1)]) (ME.p1 (me_kix (α := (List (Option Int))) (β := (HC (List (Option Int)) (HC (List PyData) (HC (List (T3 Str Int Int)) (HC (T3 (List (T4 Int Int Int (Option Int))) Int Bool) HU))))) (pr := fun t => t.h) hr.units 0 (me_var 2))) (co_bw lr_im) (fun _ => (MA.p1 (ma_cons (args := fun p : (List (T3 Str Int Int)) × Str × Unit => [.bw (rl (Gb.mk K mg) p.1), .im (Py.r (Gb.mk K mg) p.2.1)]) (me_own 8) (co_bw lr_rd) (fun _ => (MA.p1 (ma_cons (args := fun p : Str × Unit => [.im (Py.r (Gb.mk K mg) p.1)]) (ME.p1 (me_kix (α := (List (T3 Str Int Int))) (β := (HC (List (Option Int)) (HC (List PyData) (HC (List (T3 Str Int Int)) (HC (T3 (List (T4 Int Int Int (Option Int))) Int Bool) HU))))) (pr := fun t => t.t.t.h) hr.units 2 (me_var 2))) (co_bw lr_im) (fun _ => (MA.eqm (ma_dfl ((("again" : Str) : Str), ()) (fun _ _ => .cons rfl (.nil))) rfl))))))))))) (fun x_law_till => MB.p1 (mb_set 10 sc_law.nd (me_call (ok_law_basket_made T) hr (by decide) T.m_law_basket_made T.k_law_basket_made T.b_law_basket_made_1 .nil (MA.p1 (ma_cons (args := fun p : Unit => []) (ME.p1 (me_kix (α := (T3 (List (T4 Int Int Int (Option Int))) Int Bool)) (β := (HC (List (Option Int)) (HC (List PyData) (HC (List (T3 Str Int Int)) (HC (T3 (List (T4 Int Int Int (Option Int))) Int Bool) HU))))) (pr := fun t => t.t.t.t.h) hr.units 3 (me_var 2))) co_im (fun _ => ma_nl)))) (fun x_law_basket_here => mb_forT (S' := (fun z21 : Unit => [some (.bw (rl (Gb.mk K mg) (x_law_script : (List Int)))), some (.im (Py.r (Gb.mk K mg) (x_law_cell_here : Int))), some (.im (Py.r (Gb.mk K mg) ((HR.mk (ns := [("parents" : Str), ("vouchers" : Str), ("rules" : Str), ("basket" : Str)]) (HC.mk z19.1 (HC.mk z19.2.1 (HC.mk z19.2.2.1 (HC.mk z19.2.2.2 HU.mk))))) : (HR [("parents" : Str), ("vouchers" : Str), ("rules" : Str), ("basket" : Str)] (HC (List (Option Int)) (HC (List PyData) (HC (List (T3 Str Int Int)) (HC (T3 (List (T4 Int Int Int (Option Int))) Int Bool) HU)))))))), some (.im (Py.r (Gb.mk K mg) (x_law_kinds : Int))), some (.im (Py.r (Gb.mk K mg) (x_law_total : Int))), some (.im (Py.r (Gb.mk K mg) (x_law_many : Int))), none, some (.im (Py.r (Gb.mk K mg) (x_law_drawn : Int))), some (.fr (rl (Gb.mk K mg) (z20 : (List VoucherD)))), some (.ow (oC (wI (Gb.mk K mg) "Till" ["parents", "vouchers", "rules", "back"]) [(oF (rl (Gb.mk K mg) (x_law_till.f_parents : (List (Option Int))))), (oF (rl (Gb.mk K mg) (x_law_till.f_vouchers : (List VoucherD)))), (oF (rl (Gb.mk K mg) (x_law_till.f_rules : (List (T3 Str Int Int))))), (oI (Py.r (Gb.mk K mg) (x_law_till.f_back : Str)))])), some (.im (Py.r (Gb.mk K mg) (x_law_basket_here : BasketD))), none, none, none])) (s0 := ()) (mi_lst (ms_im (me_frz (ME.p1 (ME.p1 (me_cat (me_lst (α := Int) (ML.p1 (ML.p1 (ml_cons (me_var 1) ml_nil)))) (ME.p1 (ME.p1 (ME.p1 (me_cut (me_bor 0) (MO.p1 (mo_some me_int)) (MO.p1 (mo_some me_int)))))))))))) (mg_name 11 sc_law.nd) (.keep (.keep (.keep (.keep (.keep (.keep (.keep (.keep (.keep (.keep (.keep (.keep (.keep (.keep .nil)))))))))))))) (fun _ (z21 : Unit) (x_law_one : Int) => mb_set 12 sc_law.nd (me_call (ok_law_order T) hr (by decide) T.m_law_order T.k_law_order T.b_law_order_2 .nil (MA.p1 (ma_cons (args := fun p : Int × Unit => [.im (Py.r (Gb.mk K mg) p.1)]) (me_var 11) co_im (fun _ => (MA.p1 (ma_cons (args := fun p : Unit => []) (me_var 5) co_im (fun _ => ma_nl))))))) (fun x_law_order_here => mb_ift (mt_view (a := x_law_till) 9 (z_Till _) rfl (mt_not (mt_val (me_call (ok_law_alike T 24) hr (by decide) T.m_law_alike T.k_law_alike T.b_law_alike_2 .nil (ma_cons (args := fun p : PyData × Unit => [.im (Py.r (Gb.mk K mg) p.1)]) (me_toD (α := (Option (T2 Int Str))) (me_call (ok_fault T) hr (by decide) T.m_fault T.k_fault T.b_fault_4 .nil (MA.p1 (ma_cons (args := fun p : BasketD × (List Int) × (List Int) × Unit => [.im (Py.r (Gb.mk K mg) p.1), .bw (rl (Gb.mk K mg) p.2.1), .bw (rl (Gb.mk K mg) p.2.2.1)]) (me_var 9) co_im (fun _ => (MA.p1 (ma_cons (args := fun p : (List Int) × (List Int) × Unit => [.bw (rl (Gb.mk K mg) p.1), .bw (rl (Gb.mk K mg) p.2.1)]) (me_var 10) co_im (fun _ => (ma_cons (args := fun p : (List Int) × Unit => [.bw (rl (Gb.mk K mg) p.1)]) (ME.p1 (ME.p1 (me_rep (me_lst (α := Int) (ML.p1 (ML.p1 (ml_cons me_int ml_nil)))) (me_var 5)))) (co_bw lr_fr) (fun _ => (MA.p1 (ma_cons (args := fun p : Unit => []) (me_own 12) (co_bw lr_rd) (fun _ => ma_nl))))))))))))) co_im (fun _ => (ma_cons (args := fun p : Unit => []) (me_toD (α := (Option (T2 Int Str))) (me_call (ok_law_due T) hr (by decide) T.m_law_due T.k_law_due T.b_law_due_2 .nil (MA.p1 (ma_cons (args := fun p : (List Int) × Unit => [.bw (rl (Gb.mk K mg) p.1)]) (me_var 2) co_im (fun _ => (MA.p1 (ma_cons (args := fun p : Unit => []) (me_own 12) (co_bw lr_rd) (fun _ => ma_nl)))))))) co_im (fun _ => ma_nl)))))))) (MB.p1 (mb_ret kr_c me_bl)) (mb_nil (b := ()) kx_c (.keep (.keep (.keep (.keep (.keep (.keep (.keep (.keep (.keep (.keep (.keep (.drop (.drop (.keep .nil))))))))))))))) (hk_c (by repeat (first | exact nn_rt | exact nn_ct | exact nn_bk | refine nn_ite ?_ ?_ | refine nn_bind fun _ => ?_))))) (fun (z29 : Unit) => mb_retT me_bl)))))))))))))))))))))))))) ?_
  delta M.law
  rfl
end
def lawsp (K : PySem.W.Frag) (mg : Str → Option Value) : Sp := spT (Gb.mk K mg) (fun p : (List Int) × Unit => [.bw (rl (Gb.mk K mg) p.1)]) (fun p => M.law p.1) (fun r => .im (Py.r (Gb.mk K mg) (r : Bool)))
theorem all_mk {l : PySem.W.OpenLaw} {w : World} {K : PySem.W.Frag} {h : Heap} {mg : Str → Option Value} {fa : Addr} (X : K.In h) (G : h.Ns mainGlobals mg) (hfa : mg "law" = some (.ref fa))
    {C_Marks : Addr}
    {C_Off : Addr}
    {C_Share : Addr}
    {C_Carriage : Addr}
    {C_Voucher : Addr}
    {C_Till : Addr}
    {C_Line : Addr}
    {C_Basket : Addr}
    {C_Standing : Addr}
    {f_law_cell : Addr}
    {f_law_mixed : Addr}
    {f_law_parents : Addr}
    {f_law_coins : Addr}
    {f_law_basket : Addr}
    {f_law_begun : Addr}
    {f_law_voucher : Addr}
    {f_Marks_init : Addr}
    {f_Voucher_init : Addr}
    {f_Off_init : Addr}
    {f_Share_init : Addr}
    {f_law_made : Addr}
    {f_Till_init : Addr}
    {f_Line_init : Addr}
    {f_Basket_init : Addr}
    {f_law_basket_made : Addr}
    {f_law_order : Addr}
    {f_piece_price : Addr}
    {f_Standing_init : Addr}
    {f_never_beside : Addr}
    {f_comes_late : Addr}
    {f_under : Addr}
    {f_about : Addr}
    {f_hindrance : Addr}
    {f_word_of : Addr}
    {f_dealt : Addr}
    {f_Off_wanted : Addr}
    {f_Share_wanted : Addr}
    {f_Voucher_wanted : Addr}
    {f_Voucher_wanted_carriage : Addr}
    {f_Carriage_wanted_carriage : Addr}
    {f_cuts : Addr}
    {f_after : Addr}
    {f_lacking : Addr}
    {f_fault : Addr}
    {f_law_under : Addr}
    {f_law_about : Addr}
    {f_law_hindrance : Addr}
    {f_law_used : Addr}
    {f_law_due : Addr}
    {f_law_alike : Addr}
    {f_law : Addr}
    {oc_law_cell kV_law_cell dc_law_cell pm_law_cell cd_law_cell ct_law_cell : Value} {od_law_cell an_law_cell : Option Addr} {sl_law_cell : Array (Option Value)}
    {oc_law_mixed kV_law_mixed dc_law_mixed pm_law_mixed cd_law_mixed ct_law_mixed : Value} {od_law_mixed an_law_mixed : Option Addr} {sl_law_mixed : Array (Option Value)}
    {oc_law_parents kV_law_parents dc_law_parents pm_law_parents cd_law_parents ct_law_parents : Value} {od_law_parents an_law_parents : Option Addr} {sl_law_parents : Array (Option Value)}
    {oc_law_coins kV_law_coins dc_law_coins pm_law_coins cd_law_coins ct_law_coins : Value} {od_law_coins an_law_coins : Option Addr} {sl_law_coins : Array (Option Value)}
    {oc_law_basket kV_law_basket dc_law_basket pm_law_basket cd_law_basket ct_law_basket : Value} {od_law_basket an_law_basket : Option Addr} {sl_law_basket : Array (Option Value)}
    {oc_law_begun kV_law_begun dc_law_begun pm_law_begun cd_law_begun ct_law_begun : Value} {od_law_begun an_law_begun : Option Addr} {sl_law_begun : Array (Option Value)}
    {oc_law_voucher kV_law_voucher dc_law_voucher pm_law_voucher cd_law_voucher ct_law_voucher : Value} {od_law_voucher an_law_voucher : Option Addr} {sl_law_voucher : Array (Option Value)}
    {oc_Marks_init kV_Marks_init dc_Marks_init pm_Marks_init cd_Marks_init ct_Marks_init : Value} {od_Marks_init an_Marks_init : Option Addr} {sl_Marks_init : Array (Option Value)}
    {tp_Marks_init : Addr} {tc_Marks_init : Value} {to_Marks_init : Option Addr} {tn_Marks_init : Nat} {ts_Marks_init : Array (Option Value)}
    {tk_Marks_init_1 : Tok}
    {oc_Voucher_init kV_Voucher_init dc_Voucher_init pm_Voucher_init cd_Voucher_init ct_Voucher_init : Value} {od_Voucher_init an_Voucher_init : Option Addr} {sl_Voucher_init : Array (Option Value)}
    {tp_Voucher_init : Addr} {tc_Voucher_init : Value} {to_Voucher_init : Option Addr} {tn_Voucher_init : Nat} {ts_Voucher_init : Array (Option Value)}
    {oc_Off_init kV_Off_init dc_Off_init pm_Off_init cd_Off_init ct_Off_init : Value} {od_Off_init an_Off_init : Option Addr} {sl_Off_init : Array (Option Value)}
    {tp_Off_init : Addr} {tc_Off_init : Value} {to_Off_init : Option Addr} {tn_Off_init : Nat} {ts_Off_init : Array (Option Value)}
    {oc_Share_init kV_Share_init dc_Share_init pm_Share_init cd_Share_init ct_Share_init : Value} {od_Share_init an_Share_init : Option Addr} {sl_Share_init : Array (Option Value)}
    {tp_Share_init : Addr} {tc_Share_init : Value} {to_Share_init : Option Addr} {tn_Share_init : Nat} {ts_Share_init : Array (Option Value)}
    {oc_law_made kV_law_made dc_law_made pm_law_made cd_law_made ct_law_made : Value} {od_law_made an_law_made : Option Addr} {sl_law_made : Array (Option Value)}
    {oc_Till_init kV_Till_init dc_Till_init pm_Till_init cd_Till_init ct_Till_init : Value} {od_Till_init an_Till_init : Option Addr} {sl_Till_init : Array (Option Value)}
    {tp_Till_init : Addr} {tc_Till_init : Value} {to_Till_init : Option Addr} {tn_Till_init : Nat} {ts_Till_init : Array (Option Value)}
    {tk_Till_init_0 : Tok}
    {oc_Line_init kV_Line_init dc_Line_init pm_Line_init cd_Line_init ct_Line_init : Value} {od_Line_init an_Line_init : Option Addr} {sl_Line_init : Array (Option Value)}
    {tp_Line_init : Addr} {tc_Line_init : Value} {to_Line_init : Option Addr} {tn_Line_init : Nat} {ts_Line_init : Array (Option Value)}
    {oc_Basket_init kV_Basket_init dc_Basket_init pm_Basket_init cd_Basket_init ct_Basket_init : Value} {od_Basket_init an_Basket_init : Option Addr} {sl_Basket_init : Array (Option Value)}
    {tp_Basket_init : Addr} {tc_Basket_init : Value} {to_Basket_init : Option Addr} {tn_Basket_init : Nat} {ts_Basket_init : Array (Option Value)}
    {tk_Basket_init_0 : Tok}
    {oc_law_basket_made kV_law_basket_made dc_law_basket_made pm_law_basket_made cd_law_basket_made ct_law_basket_made : Value} {od_law_basket_made an_law_basket_made : Option Addr} {sl_law_basket_made : Array (Option Value)}
    {oc_law_order kV_law_order dc_law_order pm_law_order cd_law_order ct_law_order : Value} {od_law_order an_law_order : Option Addr} {sl_law_order : Array (Option Value)}
    {oc_piece_price kV_piece_price dc_piece_price pm_piece_price cd_piece_price ct_piece_price : Value} {od_piece_price an_piece_price : Option Addr} {sl_piece_price : Array (Option Value)}
    {oc_Standing_init kV_Standing_init dc_Standing_init pm_Standing_init cd_Standing_init ct_Standing_init : Value} {od_Standing_init an_Standing_init : Option Addr} {sl_Standing_init : Array (Option Value)}
    {oc_never_beside kV_never_beside dc_never_beside pm_never_beside cd_never_beside ct_never_beside : Value} {od_never_beside an_never_beside : Option Addr} {sl_never_beside : Array (Option Value)}
    {oc_comes_late kV_comes_late dc_comes_late pm_comes_late cd_comes_late ct_comes_late : Value} {od_comes_late an_comes_late : Option Addr} {sl_comes_late : Array (Option Value)}
    {oc_under kV_under dc_under pm_under cd_under ct_under : Value} {od_under an_under : Option Addr} {sl_under : Array (Option Value)}
    {oc_about kV_about dc_about pm_about cd_about ct_about : Value} {od_about an_about : Option Addr} {sl_about : Array (Option Value)}
    {oc_hindrance kV_hindrance dc_hindrance pm_hindrance cd_hindrance ct_hindrance : Value} {od_hindrance an_hindrance : Option Addr} {sl_hindrance : Array (Option Value)}
    {oc_word_of kV_word_of dc_word_of pm_word_of cd_word_of ct_word_of : Value} {od_word_of an_word_of : Option Addr} {sl_word_of : Array (Option Value)}
    {oc_dealt kV_dealt dc_dealt pm_dealt cd_dealt ct_dealt : Value} {od_dealt an_dealt : Option Addr} {sl_dealt : Array (Option Value)}
    {oc_Off_wanted kV_Off_wanted dc_Off_wanted pm_Off_wanted cd_Off_wanted ct_Off_wanted : Value} {od_Off_wanted an_Off_wanted : Option Addr} {sl_Off_wanted : Array (Option Value)}
    {oc_Share_wanted kV_Share_wanted dc_Share_wanted pm_Share_wanted cd_Share_wanted ct_Share_wanted : Value} {od_Share_wanted an_Share_wanted : Option Addr} {sl_Share_wanted : Array (Option Value)}
    {oc_Voucher_wanted kV_Voucher_wanted dc_Voucher_wanted pm_Voucher_wanted cd_Voucher_wanted ct_Voucher_wanted : Value} {od_Voucher_wanted an_Voucher_wanted : Option Addr} {sl_Voucher_wanted : Array (Option Value)}
    {oc_Voucher_wanted_carriage kV_Voucher_wanted_carriage dc_Voucher_wanted_carriage pm_Voucher_wanted_carriage cd_Voucher_wanted_carriage ct_Voucher_wanted_carriage : Value} {od_Voucher_wanted_carriage an_Voucher_wanted_carriage : Option Addr} {sl_Voucher_wanted_carriage : Array (Option Value)}
    {oc_Carriage_wanted_carriage kV_Carriage_wanted_carriage dc_Carriage_wanted_carriage pm_Carriage_wanted_carriage cd_Carriage_wanted_carriage ct_Carriage_wanted_carriage : Value} {od_Carriage_wanted_carriage an_Carriage_wanted_carriage : Option Addr} {sl_Carriage_wanted_carriage : Array (Option Value)}
    {oc_cuts kV_cuts dc_cuts pm_cuts cd_cuts ct_cuts : Value} {od_cuts an_cuts : Option Addr} {sl_cuts : Array (Option Value)}
    {oc_after kV_after dc_after pm_after cd_after ct_after : Value} {od_after an_after : Option Addr} {sl_after : Array (Option Value)}
    {oc_lacking kV_lacking dc_lacking pm_lacking cd_lacking ct_lacking : Value} {od_lacking an_lacking : Option Addr} {sl_lacking : Array (Option Value)}
    {oc_fault kV_fault dc_fault pm_fault cd_fault ct_fault : Value} {od_fault an_fault : Option Addr} {sl_fault : Array (Option Value)}
    {oc_law_under kV_law_under dc_law_under pm_law_under cd_law_under ct_law_under : Value} {od_law_under an_law_under : Option Addr} {sl_law_under : Array (Option Value)}
    {oc_law_about kV_law_about dc_law_about pm_law_about cd_law_about ct_law_about : Value} {od_law_about an_law_about : Option Addr} {sl_law_about : Array (Option Value)}
    {oc_law_hindrance kV_law_hindrance dc_law_hindrance pm_law_hindrance cd_law_hindrance ct_law_hindrance : Value} {od_law_hindrance an_law_hindrance : Option Addr} {sl_law_hindrance : Array (Option Value)}
    {oc_law_used kV_law_used dc_law_used pm_law_used cd_law_used ct_law_used : Value} {od_law_used an_law_used : Option Addr} {sl_law_used : Array (Option Value)}
    {oc_law_due kV_law_due dc_law_due pm_law_due cd_law_due ct_law_due : Value} {od_law_due an_law_due : Option Addr} {sl_law_due : Array (Option Value)}
    {oc_law_alike kV_law_alike dc_law_alike pm_law_alike cd_law_alike ct_law_alike : Value} {od_law_alike an_law_alike : Option Addr} {sl_law_alike : Array (Option Value)}
    {oc_law kV_law dc_law pm_law cd_law ct_law : Value} {od_law an_law : Option Addr} {sl_law : Array (Option Value)}
    (a_Marks : PySem.W.nsIn K mainGlobals "Marks" = some (some (.ref C_Marks)))
    (pg_Marks : PySem.W.plainGet K C_Marks Str.empty = true)
    (hd_Marks : PySem.W.hasDictIn K C_Marks = true)
    (po_Marks : PySem.W.plainOver K C_Marks = true)
    (sa_Marks : PySem.W.findIn K (.ref C_Marks) "__setattr__" = some (some (.builtin "object.__setattr__")))
    (a_Off : PySem.W.nsIn K mainGlobals "Off" = some (some (.ref C_Off)))
    (pg_Off : PySem.W.plainGet K C_Off Str.empty = true)
    (hd_Off : PySem.W.hasDictIn K C_Off = true)
    (po_Off : PySem.W.plainOver K C_Off = true)
    (sa_Off : PySem.W.findIn K (.ref C_Off) "__setattr__" = some (some (.builtin "object.__setattr__")))
    (a_Share : PySem.W.nsIn K mainGlobals "Share" = some (some (.ref C_Share)))
    (pg_Share : PySem.W.plainGet K C_Share Str.empty = true)
    (hd_Share : PySem.W.hasDictIn K C_Share = true)
    (po_Share : PySem.W.plainOver K C_Share = true)
    (sa_Share : PySem.W.findIn K (.ref C_Share) "__setattr__" = some (some (.builtin "object.__setattr__")))
    (a_Carriage : PySem.W.nsIn K mainGlobals "Carriage" = some (some (.ref C_Carriage)))
    (pg_Carriage : PySem.W.plainGet K C_Carriage Str.empty = true)
    (hd_Carriage : PySem.W.hasDictIn K C_Carriage = true)
    (po_Carriage : PySem.W.plainOver K C_Carriage = true)
    (sa_Carriage : PySem.W.findIn K (.ref C_Carriage) "__setattr__" = some (some (.builtin "object.__setattr__")))
    (a_Voucher : PySem.W.nsIn K mainGlobals "Voucher" = some (some (.ref C_Voucher)))
    (pg_Voucher : PySem.W.plainGet K C_Voucher Str.empty = true)
    (hd_Voucher : PySem.W.hasDictIn K C_Voucher = true)
    (po_Voucher : PySem.W.plainOver K C_Voucher = true)
    (sa_Voucher : PySem.W.findIn K (.ref C_Voucher) "__setattr__" = some (some (.builtin "object.__setattr__")))
    (a_Till : PySem.W.nsIn K mainGlobals "Till" = some (some (.ref C_Till)))
    (pg_Till : PySem.W.plainGet K C_Till Str.empty = true)
    (hd_Till : PySem.W.hasDictIn K C_Till = true)
    (po_Till : PySem.W.plainOver K C_Till = true)
    (sa_Till : PySem.W.findIn K (.ref C_Till) "__setattr__" = some (some (.builtin "object.__setattr__")))
    (a_Line : PySem.W.nsIn K mainGlobals "Line" = some (some (.ref C_Line)))
    (pg_Line : PySem.W.plainGet K C_Line Str.empty = true)
    (hd_Line : PySem.W.hasDictIn K C_Line = true)
    (po_Line : PySem.W.plainOver K C_Line = true)
    (sa_Line : PySem.W.findIn K (.ref C_Line) "__setattr__" = some (some (.builtin "object.__setattr__")))
    (a_Basket : PySem.W.nsIn K mainGlobals "Basket" = some (some (.ref C_Basket)))
    (pg_Basket : PySem.W.plainGet K C_Basket Str.empty = true)
    (hd_Basket : PySem.W.hasDictIn K C_Basket = true)
    (po_Basket : PySem.W.plainOver K C_Basket = true)
    (sa_Basket : PySem.W.findIn K (.ref C_Basket) "__setattr__" = some (some (.builtin "object.__setattr__")))
    (a_Standing : PySem.W.nsIn K mainGlobals "Standing" = some (some (.ref C_Standing)))
    (pg_Standing : PySem.W.plainGet K C_Standing Str.empty = true)
    (hd_Standing : PySem.W.hasDictIn K C_Standing = true)
    (po_Standing : PySem.W.plainOver K C_Standing = true)
    (sa_Standing : PySem.W.findIn K (.ref C_Standing) "__setattr__" = some (some (.builtin "object.__setattr__")))
    (n_Basket_carriage : PySem.W.findIn K (.ref C_Basket) "carriage" = some none)
    (n_Basket_lines : PySem.W.findIn K (.ref C_Basket) "lines" = some none)
    (n_Basket_member : PySem.W.findIn K (.ref C_Basket) "member" = some none)
    (n_Carriage_marks : PySem.W.findIn K (.ref C_Carriage) "marks" = some none)
    (n_Line_kind : PySem.W.findIn K (.ref C_Line) "kind" = some none)
    (n_Line_many : PySem.W.findIn K (.ref C_Line) "many" = some none)
    (n_Line_price : PySem.W.findIn K (.ref C_Line) "price" = some none)
    (n_Line_special : PySem.W.findIn K (.ref C_Line) "special" = some none)
    (n_Marks_kind : PySem.W.findIn K (.ref C_Marks) "kind" = some none)
    (n_Marks_lone : PySem.W.findIn K (.ref C_Marks) "lone" = some none)
    (n_Marks_member : PySem.W.findIn K (.ref C_Marks) "member" = some none)
    (n_Marks_most : PySem.W.findIn K (.ref C_Marks) "most" = some none)
    (n_Marks_needs : PySem.W.findIn K (.ref C_Marks) "needs" = some none)
    (n_Marks_once : PySem.W.findIn K (.ref C_Marks) "once" = some none)
    (n_Off_amount : PySem.W.findIn K (.ref C_Off) "amount" = some none)
    (n_Off_marks : PySem.W.findIn K (.ref C_Off) "marks" = some none)
    (n_Share_by_line : PySem.W.findIn K (.ref C_Share) "by_line" = some none)
    (n_Share_marks : PySem.W.findIn K (.ref C_Share) "marks" = some none)
    (n_Share_share : PySem.W.findIn K (.ref C_Share) "share" = some none)
    (n_Standing_carriage : PySem.W.findIn K (.ref C_Standing) "carriage" = some none)
    (n_Standing_marked : PySem.W.findIn K (.ref C_Standing) "marked" = some none)
    (n_Standing_owners : PySem.W.findIn K (.ref C_Standing) "owners" = some none)
    (n_Standing_prices : PySem.W.findIn K (.ref C_Standing) "prices" = some none)
    (n_Till_back : PySem.W.findIn K (.ref C_Till) "back" = some none)
    (n_Till_parents : PySem.W.findIn K (.ref C_Till) "parents" = some none)
    (n_Till_rules : PySem.W.findIn K (.ref C_Till) "rules" = some none)
    (n_Till_vouchers : PySem.W.findIn K (.ref C_Till) "vouchers" = some none)
    (mi_Basket : PySem.W.findIn K (.ref C_Basket) "__init__" = some (some (.ref f_Basket_init)))
    (mm_Basket : PySem.W.makesIn K C_Basket = true)
    (mf_Basket : PySem.W.isFn K (.ref f_Basket_init) = true)
    (mk_Basket : PySem.W.keepIn K (.ref C_Basket) = true)
    (mi_Carriage : PySem.W.findIn K (.ref C_Carriage) "__init__" = some (some (.ref f_Voucher_init)))
    (mm_Carriage : PySem.W.makesIn K C_Carriage = true)
    (mf_Carriage : PySem.W.isFn K (.ref f_Voucher_init) = true)
    (mk_Carriage : PySem.W.keepIn K (.ref C_Carriage) = true)
    (mi_Line : PySem.W.findIn K (.ref C_Line) "__init__" = some (some (.ref f_Line_init)))
    (mm_Line : PySem.W.makesIn K C_Line = true)
    (mf_Line : PySem.W.isFn K (.ref f_Line_init) = true)
    (mk_Line : PySem.W.keepIn K (.ref C_Line) = true)
    (mi_Marks : PySem.W.findIn K (.ref C_Marks) "__init__" = some (some (.ref f_Marks_init)))
    (mm_Marks : PySem.W.makesIn K C_Marks = true)
    (mf_Marks : PySem.W.isFn K (.ref f_Marks_init) = true)
    (mk_Marks : PySem.W.keepIn K (.ref C_Marks) = true)
    (mi_Off : PySem.W.findIn K (.ref C_Off) "__init__" = some (some (.ref f_Off_init)))
    (mm_Off : PySem.W.makesIn K C_Off = true)
    (mf_Off : PySem.W.isFn K (.ref f_Off_init) = true)
    (mk_Off : PySem.W.keepIn K (.ref C_Off) = true)
    (mi_Share : PySem.W.findIn K (.ref C_Share) "__init__" = some (some (.ref f_Share_init)))
    (mm_Share : PySem.W.makesIn K C_Share = true)
    (mf_Share : PySem.W.isFn K (.ref f_Share_init) = true)
    (mk_Share : PySem.W.keepIn K (.ref C_Share) = true)
    (mi_Standing : PySem.W.findIn K (.ref C_Standing) "__init__" = some (some (.ref f_Standing_init)))
    (mm_Standing : PySem.W.makesIn K C_Standing = true)
    (mf_Standing : PySem.W.isFn K (.ref f_Standing_init) = true)
    (mk_Standing : PySem.W.keepIn K (.ref C_Standing) = true)
    (mi_Till : PySem.W.findIn K (.ref C_Till) "__init__" = some (some (.ref f_Till_init)))
    (mm_Till : PySem.W.makesIn K C_Till = true)
    (mf_Till : PySem.W.isFn K (.ref f_Till_init) = true)
    (mk_Till : PySem.W.keepIn K (.ref C_Till) = true)
    (ma_Carriage_Voucher_wanted : PySem.W.findIn K (.ref C_Carriage) "wanted" = some (some (.ref f_Voucher_wanted)))
    (mn_Carriage_Voucher_wanted : PySem.W.isFn K (.ref f_Voucher_wanted) = true)
    (ma_Carriage_Carriage_wanted_carriage : PySem.W.findIn K (.ref C_Carriage) "wanted_carriage" = some (some (.ref f_Carriage_wanted_carriage)))
    (mn_Carriage_Carriage_wanted_carriage : PySem.W.isFn K (.ref f_Carriage_wanted_carriage) = true)
    (ma_Off_Off_wanted : PySem.W.findIn K (.ref C_Off) "wanted" = some (some (.ref f_Off_wanted)))
    (mn_Off_Off_wanted : PySem.W.isFn K (.ref f_Off_wanted) = true)
    (ma_Off_Voucher_wanted_carriage : PySem.W.findIn K (.ref C_Off) "wanted_carriage" = some (some (.ref f_Voucher_wanted_carriage)))
    (mn_Off_Voucher_wanted_carriage : PySem.W.isFn K (.ref f_Voucher_wanted_carriage) = true)
    (ma_Share_Share_wanted : PySem.W.findIn K (.ref C_Share) "wanted" = some (some (.ref f_Share_wanted)))
    (mn_Share_Share_wanted : PySem.W.isFn K (.ref f_Share_wanted) = true)
    (ma_Share_Voucher_wanted_carriage : PySem.W.findIn K (.ref C_Share) "wanted_carriage" = some (some (.ref f_Voucher_wanted_carriage)))
    (mn_Share_Voucher_wanted_carriage : PySem.W.isFn K (.ref f_Voucher_wanted_carriage) = true)
    (cr_Voucher : PySem.W.readsIn K C_Voucher (.type "type") = true)
    (cg_Voucher : PySem.W.specialIn K (.ref C_Voucher) "__getattribute__" = some (some (.builtin "type.__getattribute__")))
    (cv_Voucher_Voucher_init : PySem.W.findCls K (.ref C_Voucher) (.type "type") "__init__" = some (.val (.ref f_Voucher_init)))
    (a_law_cell : PySem.W.nsIn K mainGlobals "_law_cell" = some (some (.ref f_law_cell)))
    (l_law_cell : K.lookup f_law_cell = some ⟨oc_law_cell, od_law_cell, .func (PySem.W.fnOf "_law_cell" "_law_cell" (defArgs s_law_cell) (defBody s_law_cell) (defScope s_law_cell) .none kV_law_cell dc_law_cell pm_law_cell an_law_cell cd_law_cell ct_law_cell), sl_law_cell⟩)
    (c_law_cell : PySem.W.codeIn K cd_law_cell "_law_cell" = true)
    (k_law_cell : PySem.W.keepIn K (.ref f_law_cell) = true)
    (a_law_mixed : PySem.W.nsIn K mainGlobals "_law_mixed" = some (some (.ref f_law_mixed)))
    (l_law_mixed : K.lookup f_law_mixed = some ⟨oc_law_mixed, od_law_mixed, .func (PySem.W.fnOf "_law_mixed" "_law_mixed" (defArgs s_law_mixed) (defBody s_law_mixed) (defScope s_law_mixed) .none kV_law_mixed dc_law_mixed pm_law_mixed an_law_mixed cd_law_mixed ct_law_mixed), sl_law_mixed⟩)
    (c_law_mixed : PySem.W.codeIn K cd_law_mixed "_law_mixed" = true)
    (k_law_mixed : PySem.W.keepIn K (.ref f_law_mixed) = true)
    (a_law_parents : PySem.W.nsIn K mainGlobals "_law_parents" = some (some (.ref f_law_parents)))
    (l_law_parents : K.lookup f_law_parents = some ⟨oc_law_parents, od_law_parents, .func (PySem.W.fnOf "_law_parents" "_law_parents" (defArgs s_law_parents) (defBody s_law_parents) (defScope s_law_parents) .none kV_law_parents dc_law_parents pm_law_parents an_law_parents cd_law_parents ct_law_parents), sl_law_parents⟩)
    (c_law_parents : PySem.W.codeIn K cd_law_parents "_law_parents" = true)
    (k_law_parents : PySem.W.keepIn K (.ref f_law_parents) = true)
    (a_law_coins : PySem.W.nsIn K mainGlobals "_law_coins" = some (some (.ref f_law_coins)))
    (l_law_coins : K.lookup f_law_coins = some ⟨oc_law_coins, od_law_coins, .func (PySem.W.fnOf "_law_coins" "_law_coins" (defArgs s_law_coins) (defBody s_law_coins) (defScope s_law_coins) .none kV_law_coins dc_law_coins pm_law_coins an_law_coins cd_law_coins ct_law_coins), sl_law_coins⟩)
    (c_law_coins : PySem.W.codeIn K cd_law_coins "_law_coins" = true)
    (k_law_coins : PySem.W.keepIn K (.ref f_law_coins) = true)
    (a_law_basket : PySem.W.nsIn K mainGlobals "_law_basket" = some (some (.ref f_law_basket)))
    (l_law_basket : K.lookup f_law_basket = some ⟨oc_law_basket, od_law_basket, .func (PySem.W.fnOf "_law_basket" "_law_basket" (defArgs s_law_basket) (defBody s_law_basket) (defScope s_law_basket) .none kV_law_basket dc_law_basket pm_law_basket an_law_basket cd_law_basket ct_law_basket), sl_law_basket⟩)
    (c_law_basket : PySem.W.codeIn K cd_law_basket "_law_basket" = true)
    (k_law_basket : PySem.W.keepIn K (.ref f_law_basket) = true)
    (a_law_begun : PySem.W.nsIn K mainGlobals "_law_begun" = some (some (.ref f_law_begun)))
    (l_law_begun : K.lookup f_law_begun = some ⟨oc_law_begun, od_law_begun, .func (PySem.W.fnOf "_law_begun" "_law_begun" (defArgs s_law_begun) (defBody s_law_begun) (defScope s_law_begun) .none kV_law_begun dc_law_begun pm_law_begun an_law_begun cd_law_begun ct_law_begun), sl_law_begun⟩)
    (c_law_begun : PySem.W.codeIn K cd_law_begun "_law_begun" = true)
    (k_law_begun : PySem.W.keepIn K (.ref f_law_begun) = true)
    (a_law_voucher : PySem.W.nsIn K mainGlobals "_law_voucher" = some (some (.ref f_law_voucher)))
    (l_law_voucher : K.lookup f_law_voucher = some ⟨oc_law_voucher, od_law_voucher, .func (PySem.W.fnOf "_law_voucher" "_law_voucher" (defArgs s_law_voucher) (defBody s_law_voucher) (defScope s_law_voucher) .none kV_law_voucher dc_law_voucher pm_law_voucher an_law_voucher cd_law_voucher ct_law_voucher), sl_law_voucher⟩)
    (c_law_voucher : PySem.W.codeIn K cd_law_voucher "_law_voucher" = true)
    (k_law_voucher : PySem.W.keepIn K (.ref f_law_voucher) = true)
    (l_Marks_init : K.lookup f_Marks_init = some ⟨oc_Marks_init, od_Marks_init, .func (PySem.W.fnOf "__init__" "Marks.__init__" (defArgs s_Marks_init) (defBody s_Marks_init) (defScope s_Marks_init) (.ref tp_Marks_init) kV_Marks_init dc_Marks_init pm_Marks_init an_Marks_init cd_Marks_init ct_Marks_init), sl_Marks_init⟩)
    (t_Marks_init : K.lookup tp_Marks_init = some ⟨tc_Marks_init, to_Marks_init, .seq #[Value.none, Value.int 0 tk_Marks_init_1, Value.none, Value.bool false, Value.bool false, Value.bool false] tn_Marks_init, ts_Marks_init⟩)
    (c_Marks_init : PySem.W.codeIn K cd_Marks_init "Marks.__init__" = true)
    (k_Marks_init : PySem.W.keepIn K (.ref f_Marks_init) = true)
    (l_Voucher_init : K.lookup f_Voucher_init = some ⟨oc_Voucher_init, od_Voucher_init, .func (PySem.W.fnOf "__init__" "Voucher.__init__" (defArgs s_Voucher_init) (defBody s_Voucher_init) (defScope s_Voucher_init) (.ref tp_Voucher_init) kV_Voucher_init dc_Voucher_init pm_Voucher_init an_Voucher_init cd_Voucher_init ct_Voucher_init), sl_Voucher_init⟩)
    (t_Voucher_init : K.lookup tp_Voucher_init = some ⟨tc_Voucher_init, to_Voucher_init, .seq #[Value.none] tn_Voucher_init, ts_Voucher_init⟩)
    (c_Voucher_init : PySem.W.codeIn K cd_Voucher_init "Voucher.__init__" = true)
    (k_Voucher_init : PySem.W.keepIn K (.ref f_Voucher_init) = true)
    (l_Off_init : K.lookup f_Off_init = some ⟨oc_Off_init, od_Off_init, .func (PySem.W.fnOf "__init__" "Off.__init__" (defArgs s_Off_init) (defBody s_Off_init) (defScope s_Off_init) (.ref tp_Off_init) kV_Off_init dc_Off_init pm_Off_init an_Off_init cd_Off_init ct_Off_init), sl_Off_init⟩)
    (t_Off_init : K.lookup tp_Off_init = some ⟨tc_Off_init, to_Off_init, .seq #[Value.none] tn_Off_init, ts_Off_init⟩)
    (c_Off_init : PySem.W.codeIn K cd_Off_init "Off.__init__" = true)
    (k_Off_init : PySem.W.keepIn K (.ref f_Off_init) = true)
    (l_Share_init : K.lookup f_Share_init = some ⟨oc_Share_init, od_Share_init, .func (PySem.W.fnOf "__init__" "Share.__init__" (defArgs s_Share_init) (defBody s_Share_init) (defScope s_Share_init) (.ref tp_Share_init) kV_Share_init dc_Share_init pm_Share_init an_Share_init cd_Share_init ct_Share_init), sl_Share_init⟩)
    (t_Share_init : K.lookup tp_Share_init = some ⟨tc_Share_init, to_Share_init, .seq #[Value.bool false, Value.none] tn_Share_init, ts_Share_init⟩)
    (c_Share_init : PySem.W.codeIn K cd_Share_init "Share.__init__" = true)
    (k_Share_init : PySem.W.keepIn K (.ref f_Share_init) = true)
    (a_law_made : PySem.W.nsIn K mainGlobals "_law_made" = some (some (.ref f_law_made)))
    (l_law_made : K.lookup f_law_made = some ⟨oc_law_made, od_law_made, .func (PySem.W.fnOf "_law_made" "_law_made" (defArgs s_law_made) (defBody s_law_made) (defScope s_law_made) .none kV_law_made dc_law_made pm_law_made an_law_made cd_law_made ct_law_made), sl_law_made⟩)
    (c_law_made : PySem.W.codeIn K cd_law_made "_law_made" = true)
    (k_law_made : PySem.W.keepIn K (.ref f_law_made) = true)
    (l_Till_init : K.lookup f_Till_init = some ⟨oc_Till_init, od_Till_init, .func (PySem.W.fnOf "__init__" "Till.__init__" (defArgs s_Till_init) (defBody s_Till_init) (defScope s_Till_init) (.ref tp_Till_init) kV_Till_init dc_Till_init pm_Till_init an_Till_init cd_Till_init ct_Till_init), sl_Till_init⟩)
    (t_Till_init : K.lookup tp_Till_init = some ⟨tc_Till_init, to_Till_init, .seq #[Value.str "again" tk_Till_init_0] tn_Till_init, ts_Till_init⟩)
    (c_Till_init : PySem.W.codeIn K cd_Till_init "Till.__init__" = true)
    (k_Till_init : PySem.W.keepIn K (.ref f_Till_init) = true)
    (l_Line_init : K.lookup f_Line_init = some ⟨oc_Line_init, od_Line_init, .func (PySem.W.fnOf "__init__" "Line.__init__" (defArgs s_Line_init) (defBody s_Line_init) (defScope s_Line_init) (.ref tp_Line_init) kV_Line_init dc_Line_init pm_Line_init an_Line_init cd_Line_init ct_Line_init), sl_Line_init⟩)
    (t_Line_init : K.lookup tp_Line_init = some ⟨tc_Line_init, to_Line_init, .seq #[Value.none] tn_Line_init, ts_Line_init⟩)
    (c_Line_init : PySem.W.codeIn K cd_Line_init "Line.__init__" = true)
    (k_Line_init : PySem.W.keepIn K (.ref f_Line_init) = true)
    (l_Basket_init : K.lookup f_Basket_init = some ⟨oc_Basket_init, od_Basket_init, .func (PySem.W.fnOf "__init__" "Basket.__init__" (defArgs s_Basket_init) (defBody s_Basket_init) (defScope s_Basket_init) (.ref tp_Basket_init) kV_Basket_init dc_Basket_init pm_Basket_init an_Basket_init cd_Basket_init ct_Basket_init), sl_Basket_init⟩)
    (t_Basket_init : K.lookup tp_Basket_init = some ⟨tc_Basket_init, to_Basket_init, .seq #[Value.int 0 tk_Basket_init_0, Value.bool false] tn_Basket_init, ts_Basket_init⟩)
    (c_Basket_init : PySem.W.codeIn K cd_Basket_init "Basket.__init__" = true)
    (k_Basket_init : PySem.W.keepIn K (.ref f_Basket_init) = true)
    (a_law_basket_made : PySem.W.nsIn K mainGlobals "_law_basket_made" = some (some (.ref f_law_basket_made)))
    (l_law_basket_made : K.lookup f_law_basket_made = some ⟨oc_law_basket_made, od_law_basket_made, .func (PySem.W.fnOf "_law_basket_made" "_law_basket_made" (defArgs s_law_basket_made) (defBody s_law_basket_made) (defScope s_law_basket_made) .none kV_law_basket_made dc_law_basket_made pm_law_basket_made an_law_basket_made cd_law_basket_made ct_law_basket_made), sl_law_basket_made⟩)
    (c_law_basket_made : PySem.W.codeIn K cd_law_basket_made "_law_basket_made" = true)
    (k_law_basket_made : PySem.W.keepIn K (.ref f_law_basket_made) = true)
    (a_law_order : PySem.W.nsIn K mainGlobals "_law_order" = some (some (.ref f_law_order)))
    (l_law_order : K.lookup f_law_order = some ⟨oc_law_order, od_law_order, .func (PySem.W.fnOf "_law_order" "_law_order" (defArgs s_law_order) (defBody s_law_order) (defScope s_law_order) .none kV_law_order dc_law_order pm_law_order an_law_order cd_law_order ct_law_order), sl_law_order⟩)
    (c_law_order : PySem.W.codeIn K cd_law_order "_law_order" = true)
    (k_law_order : PySem.W.keepIn K (.ref f_law_order) = true)
    (a_piece_price : PySem.W.nsIn K mainGlobals "piece_price" = some (some (.ref f_piece_price)))
    (l_piece_price : K.lookup f_piece_price = some ⟨oc_piece_price, od_piece_price, .func (PySem.W.fnOf "piece_price" "piece_price" (defArgs s_piece_price) (defBody s_piece_price) (defScope s_piece_price) .none kV_piece_price dc_piece_price pm_piece_price an_piece_price cd_piece_price ct_piece_price), sl_piece_price⟩)
    (c_piece_price : PySem.W.codeIn K cd_piece_price "piece_price" = true)
    (k_piece_price : PySem.W.keepIn K (.ref f_piece_price) = true)
    (l_Standing_init : K.lookup f_Standing_init = some ⟨oc_Standing_init, od_Standing_init, .func (PySem.W.fnOf "__init__" "Standing.__init__" (defArgs s_Standing_init) (defBody s_Standing_init) (defScope s_Standing_init) .none kV_Standing_init dc_Standing_init pm_Standing_init an_Standing_init cd_Standing_init ct_Standing_init), sl_Standing_init⟩)
    (c_Standing_init : PySem.W.codeIn K cd_Standing_init "Standing.__init__" = true)
    (k_Standing_init : PySem.W.keepIn K (.ref f_Standing_init) = true)
    (a_never_beside : PySem.W.nsIn K mainGlobals "never_beside" = some (some (.ref f_never_beside)))
    (l_never_beside : K.lookup f_never_beside = some ⟨oc_never_beside, od_never_beside, .func (PySem.W.fnOf "never_beside" "never_beside" (defArgs s_never_beside) (defBody s_never_beside) (defScope s_never_beside) .none kV_never_beside dc_never_beside pm_never_beside an_never_beside cd_never_beside ct_never_beside), sl_never_beside⟩)
    (c_never_beside : PySem.W.codeIn K cd_never_beside "never_beside" = true)
    (k_never_beside : PySem.W.keepIn K (.ref f_never_beside) = true)
    (a_comes_late : PySem.W.nsIn K mainGlobals "comes_late" = some (some (.ref f_comes_late)))
    (l_comes_late : K.lookup f_comes_late = some ⟨oc_comes_late, od_comes_late, .func (PySem.W.fnOf "comes_late" "comes_late" (defArgs s_comes_late) (defBody s_comes_late) (defScope s_comes_late) .none kV_comes_late dc_comes_late pm_comes_late an_comes_late cd_comes_late ct_comes_late), sl_comes_late⟩)
    (c_comes_late : PySem.W.codeIn K cd_comes_late "comes_late" = true)
    (k_comes_late : PySem.W.keepIn K (.ref f_comes_late) = true)
    (a_under : PySem.W.nsIn K mainGlobals "under" = some (some (.ref f_under)))
    (l_under : K.lookup f_under = some ⟨oc_under, od_under, .func (PySem.W.fnOf "under" "under" (defArgs s_under) (defBody s_under) (defScope s_under) .none kV_under dc_under pm_under an_under cd_under ct_under), sl_under⟩)
    (c_under : PySem.W.codeIn K cd_under "under" = true)
    (k_under : PySem.W.keepIn K (.ref f_under) = true)
    (a_about : PySem.W.nsIn K mainGlobals "about" = some (some (.ref f_about)))
    (l_about : K.lookup f_about = some ⟨oc_about, od_about, .func (PySem.W.fnOf "about" "about" (defArgs s_about) (defBody s_about) (defScope s_about) .none kV_about dc_about pm_about an_about cd_about ct_about), sl_about⟩)
    (c_about : PySem.W.codeIn K cd_about "about" = true)
    (k_about : PySem.W.keepIn K (.ref f_about) = true)
    (a_hindrance : PySem.W.nsIn K mainGlobals "hindrance" = some (some (.ref f_hindrance)))
    (l_hindrance : K.lookup f_hindrance = some ⟨oc_hindrance, od_hindrance, .func (PySem.W.fnOf "hindrance" "hindrance" (defArgs s_hindrance) (defBody s_hindrance) (defScope s_hindrance) .none kV_hindrance dc_hindrance pm_hindrance an_hindrance cd_hindrance ct_hindrance), sl_hindrance⟩)
    (c_hindrance : PySem.W.codeIn K cd_hindrance "hindrance" = true)
    (k_hindrance : PySem.W.keepIn K (.ref f_hindrance) = true)
    (a_word_of : PySem.W.nsIn K mainGlobals "word_of" = some (some (.ref f_word_of)))
    (l_word_of : K.lookup f_word_of = some ⟨oc_word_of, od_word_of, .func (PySem.W.fnOf "word_of" "word_of" (defArgs s_word_of) (defBody s_word_of) (defScope s_word_of) .none kV_word_of dc_word_of pm_word_of an_word_of cd_word_of ct_word_of), sl_word_of⟩)
    (c_word_of : PySem.W.codeIn K cd_word_of "word_of" = true)
    (k_word_of : PySem.W.keepIn K (.ref f_word_of) = true)
    (a_dealt : PySem.W.nsIn K mainGlobals "dealt" = some (some (.ref f_dealt)))
    (l_dealt : K.lookup f_dealt = some ⟨oc_dealt, od_dealt, .func (PySem.W.fnOf "dealt" "dealt" (defArgs s_dealt) (defBody s_dealt) (defScope s_dealt) .none kV_dealt dc_dealt pm_dealt an_dealt cd_dealt ct_dealt), sl_dealt⟩)
    (c_dealt : PySem.W.codeIn K cd_dealt "dealt" = true)
    (k_dealt : PySem.W.keepIn K (.ref f_dealt) = true)
    (l_Off_wanted : K.lookup f_Off_wanted = some ⟨oc_Off_wanted, od_Off_wanted, .func (PySem.W.fnOf "wanted" "Off.wanted" (defArgs s_Off_wanted) (defBody s_Off_wanted) (defScope s_Off_wanted) .none kV_Off_wanted dc_Off_wanted pm_Off_wanted an_Off_wanted cd_Off_wanted ct_Off_wanted), sl_Off_wanted⟩)
    (c_Off_wanted : PySem.W.codeIn K cd_Off_wanted "Off.wanted" = true)
    (k_Off_wanted : PySem.W.keepIn K (.ref f_Off_wanted) = true)
    (l_Share_wanted : K.lookup f_Share_wanted = some ⟨oc_Share_wanted, od_Share_wanted, .func (PySem.W.fnOf "wanted" "Share.wanted" (defArgs s_Share_wanted) (defBody s_Share_wanted) (defScope s_Share_wanted) .none kV_Share_wanted dc_Share_wanted pm_Share_wanted an_Share_wanted cd_Share_wanted ct_Share_wanted), sl_Share_wanted⟩)
    (c_Share_wanted : PySem.W.codeIn K cd_Share_wanted "Share.wanted" = true)
    (k_Share_wanted : PySem.W.keepIn K (.ref f_Share_wanted) = true)
    (l_Voucher_wanted : K.lookup f_Voucher_wanted = some ⟨oc_Voucher_wanted, od_Voucher_wanted, .func (PySem.W.fnOf "wanted" "Voucher.wanted" (defArgs s_Voucher_wanted) (defBody s_Voucher_wanted) (defScope s_Voucher_wanted) .none kV_Voucher_wanted dc_Voucher_wanted pm_Voucher_wanted an_Voucher_wanted cd_Voucher_wanted ct_Voucher_wanted), sl_Voucher_wanted⟩)
    (c_Voucher_wanted : PySem.W.codeIn K cd_Voucher_wanted "Voucher.wanted" = true)
    (k_Voucher_wanted : PySem.W.keepIn K (.ref f_Voucher_wanted) = true)
    (l_Voucher_wanted_carriage : K.lookup f_Voucher_wanted_carriage = some ⟨oc_Voucher_wanted_carriage, od_Voucher_wanted_carriage, .func (PySem.W.fnOf "wanted_carriage" "Voucher.wanted_carriage" (defArgs s_Voucher_wanted_carriage) (defBody s_Voucher_wanted_carriage) (defScope s_Voucher_wanted_carriage) .none kV_Voucher_wanted_carriage dc_Voucher_wanted_carriage pm_Voucher_wanted_carriage an_Voucher_wanted_carriage cd_Voucher_wanted_carriage ct_Voucher_wanted_carriage), sl_Voucher_wanted_carriage⟩)
    (c_Voucher_wanted_carriage : PySem.W.codeIn K cd_Voucher_wanted_carriage "Voucher.wanted_carriage" = true)
    (k_Voucher_wanted_carriage : PySem.W.keepIn K (.ref f_Voucher_wanted_carriage) = true)
    (l_Carriage_wanted_carriage : K.lookup f_Carriage_wanted_carriage = some ⟨oc_Carriage_wanted_carriage, od_Carriage_wanted_carriage, .func (PySem.W.fnOf "wanted_carriage" "Carriage.wanted_carriage" (defArgs s_Carriage_wanted_carriage) (defBody s_Carriage_wanted_carriage) (defScope s_Carriage_wanted_carriage) .none kV_Carriage_wanted_carriage dc_Carriage_wanted_carriage pm_Carriage_wanted_carriage an_Carriage_wanted_carriage cd_Carriage_wanted_carriage ct_Carriage_wanted_carriage), sl_Carriage_wanted_carriage⟩)
    (c_Carriage_wanted_carriage : PySem.W.codeIn K cd_Carriage_wanted_carriage "Carriage.wanted_carriage" = true)
    (k_Carriage_wanted_carriage : PySem.W.keepIn K (.ref f_Carriage_wanted_carriage) = true)
    (a_cuts : PySem.W.nsIn K mainGlobals "cuts" = some (some (.ref f_cuts)))
    (l_cuts : K.lookup f_cuts = some ⟨oc_cuts, od_cuts, .func (PySem.W.fnOf "cuts" "cuts" (defArgs s_cuts) (defBody s_cuts) (defScope s_cuts) .none kV_cuts dc_cuts pm_cuts an_cuts cd_cuts ct_cuts), sl_cuts⟩)
    (c_cuts : PySem.W.codeIn K cd_cuts "cuts" = true)
    (k_cuts : PySem.W.keepIn K (.ref f_cuts) = true)
    (a_after : PySem.W.nsIn K mainGlobals "after" = some (some (.ref f_after)))
    (l_after : K.lookup f_after = some ⟨oc_after, od_after, .func (PySem.W.fnOf "after" "after" (defArgs s_after) (defBody s_after) (defScope s_after) .none kV_after dc_after pm_after an_after cd_after ct_after), sl_after⟩)
    (c_after : PySem.W.codeIn K cd_after "after" = true)
    (k_after : PySem.W.keepIn K (.ref f_after) = true)
    (a_lacking : PySem.W.nsIn K mainGlobals "lacking" = some (some (.ref f_lacking)))
    (l_lacking : K.lookup f_lacking = some ⟨oc_lacking, od_lacking, .func (PySem.W.fnOf "lacking" "lacking" (defArgs s_lacking) (defBody s_lacking) (defScope s_lacking) .none kV_lacking dc_lacking pm_lacking an_lacking cd_lacking ct_lacking), sl_lacking⟩)
    (c_lacking : PySem.W.codeIn K cd_lacking "lacking" = true)
    (k_lacking : PySem.W.keepIn K (.ref f_lacking) = true)
    (a_fault : PySem.W.nsIn K mainGlobals "fault" = some (some (.ref f_fault)))
    (l_fault : K.lookup f_fault = some ⟨oc_fault, od_fault, .func (PySem.W.fnOf "fault" "fault" (defArgs s_fault) (defBody s_fault) (defScope s_fault) .none kV_fault dc_fault pm_fault an_fault cd_fault ct_fault), sl_fault⟩)
    (c_fault : PySem.W.codeIn K cd_fault "fault" = true)
    (k_fault : PySem.W.keepIn K (.ref f_fault) = true)
    (a_law_under : PySem.W.nsIn K mainGlobals "_law_under" = some (some (.ref f_law_under)))
    (l_law_under : K.lookup f_law_under = some ⟨oc_law_under, od_law_under, .func (PySem.W.fnOf "_law_under" "_law_under" (defArgs s_law_under) (defBody s_law_under) (defScope s_law_under) .none kV_law_under dc_law_under pm_law_under an_law_under cd_law_under ct_law_under), sl_law_under⟩)
    (c_law_under : PySem.W.codeIn K cd_law_under "_law_under" = true)
    (k_law_under : PySem.W.keepIn K (.ref f_law_under) = true)
    (a_law_about : PySem.W.nsIn K mainGlobals "_law_about" = some (some (.ref f_law_about)))
    (l_law_about : K.lookup f_law_about = some ⟨oc_law_about, od_law_about, .func (PySem.W.fnOf "_law_about" "_law_about" (defArgs s_law_about) (defBody s_law_about) (defScope s_law_about) .none kV_law_about dc_law_about pm_law_about an_law_about cd_law_about ct_law_about), sl_law_about⟩)
    (c_law_about : PySem.W.codeIn K cd_law_about "_law_about" = true)
    (k_law_about : PySem.W.keepIn K (.ref f_law_about) = true)
    (a_law_hindrance : PySem.W.nsIn K mainGlobals "_law_hindrance" = some (some (.ref f_law_hindrance)))
    (l_law_hindrance : K.lookup f_law_hindrance = some ⟨oc_law_hindrance, od_law_hindrance, .func (PySem.W.fnOf "_law_hindrance" "_law_hindrance" (defArgs s_law_hindrance) (defBody s_law_hindrance) (defScope s_law_hindrance) .none kV_law_hindrance dc_law_hindrance pm_law_hindrance an_law_hindrance cd_law_hindrance ct_law_hindrance), sl_law_hindrance⟩)
    (c_law_hindrance : PySem.W.codeIn K cd_law_hindrance "_law_hindrance" = true)
    (k_law_hindrance : PySem.W.keepIn K (.ref f_law_hindrance) = true)
    (a_law_used : PySem.W.nsIn K mainGlobals "_law_used" = some (some (.ref f_law_used)))
    (l_law_used : K.lookup f_law_used = some ⟨oc_law_used, od_law_used, .func (PySem.W.fnOf "_law_used" "_law_used" (defArgs s_law_used) (defBody s_law_used) (defScope s_law_used) .none kV_law_used dc_law_used pm_law_used an_law_used cd_law_used ct_law_used), sl_law_used⟩)
    (c_law_used : PySem.W.codeIn K cd_law_used "_law_used" = true)
    (k_law_used : PySem.W.keepIn K (.ref f_law_used) = true)
    (a_law_due : PySem.W.nsIn K mainGlobals "_law_due" = some (some (.ref f_law_due)))
    (l_law_due : K.lookup f_law_due = some ⟨oc_law_due, od_law_due, .func (PySem.W.fnOf "_law_due" "_law_due" (defArgs s_law_due) (defBody s_law_due) (defScope s_law_due) .none kV_law_due dc_law_due pm_law_due an_law_due cd_law_due ct_law_due), sl_law_due⟩)
    (c_law_due : PySem.W.codeIn K cd_law_due "_law_due" = true)
    (k_law_due : PySem.W.keepIn K (.ref f_law_due) = true)
    (a_law_alike : PySem.W.nsIn K mainGlobals "_law_alike" = some (some (.ref f_law_alike)))
    (l_law_alike : K.lookup f_law_alike = some ⟨oc_law_alike, od_law_alike, .func (PySem.W.fnOf "_law_alike" "_law_alike" (defArgs s_law_alike) (defBody s_law_alike) (defScope s_law_alike) .none kV_law_alike dc_law_alike pm_law_alike an_law_alike cd_law_alike ct_law_alike), sl_law_alike⟩)
    (c_law_alike : PySem.W.codeIn K cd_law_alike "_law_alike" = true)
    (k_law_alike : PySem.W.keepIn K (.ref f_law_alike) = true)
    (a_law : PySem.W.nsIn K mainGlobals "law" = some (some (.ref f_law)))
    (l_law : K.lookup f_law = some ⟨oc_law, od_law, .func (PySem.W.fnOf "law" "law" (defArgs s_law) (defBody s_law) (defScope s_law) .none kV_law dc_law pm_law an_law cd_law ct_law), sl_law⟩)
    (c_law : PySem.W.codeIn K cd_law "law" = true)
    (k_law : PySem.W.keepIn K (.ref f_law) = true)
    (z_all : PySem.W.nsIn K mainGlobals "all" = some none)
    (z_bool : PySem.W.nsIn K mainGlobals "bool" = some none)
    (z_enumerate : PySem.W.nsIn K mainGlobals "enumerate" = some none)
    (z_int : PySem.W.nsIn K mainGlobals "int" = some none)
    (z_isinstance : PySem.W.nsIn K mainGlobals "isinstance" = some none)
    (z_len : PySem.W.nsIn K mainGlobals "len" = some none)
    (z_list : PySem.W.nsIn K mainGlobals "list" = some none)
    (z_min : PySem.W.nsIn K mainGlobals "min" = some none)
    (z_range : PySem.W.nsIn K mainGlobals "range" = some none)
    (z_set : PySem.W.nsIn K mainGlobals "set" = some none)
    (z_sorted : PySem.W.nsIn K mainGlobals "sorted" = some none)
    (z_str : PySem.W.nsIn K mainGlobals "str" = some none)
    (z_sum : PySem.W.nsIn K mainGlobals "sum" = some none)
    (z_tuple : PySem.W.nsIn K mainGlobals "tuple" = some none)
    (z_zip : PySem.W.nsIn K mainGlobals "zip" = some none) :
    ∃ fd : FuncData, (∀ (s : Shared) (v : Value), BindsTo s fd ⟨[v], []⟩ [("_law_script", v)]) ∧ ∀ base : Heap, K.In base → base.Ns mainGlobals mg → FnOk l.prog w K mg base CX0 26 fa fd ["_law_script"] (lawsp K mg) := by
  have e := hfa.symm.trans (PySem.W.mg_of X G a_law)
  cases e
  have D_law_cell := fun_mk (st := s_law_cell) l_law_cell c_law_cell k_law_cell
  have F_law_cell : FunX K "_law_cell" "_law_cell" s_law_cell _ _ := ⟨⟨_, _, _, _, _, _, _, _, _, _, rfl, l_law_cell, c_law_cell⟩, k_law_cell⟩
  have D_law_mixed := fun_mk (st := s_law_mixed) l_law_mixed c_law_mixed k_law_mixed
  have F_law_mixed : FunX K "_law_mixed" "_law_mixed" s_law_mixed _ _ := ⟨⟨_, _, _, _, _, _, _, _, _, _, rfl, l_law_mixed, c_law_mixed⟩, k_law_mixed⟩
  have D_law_parents := fun_mk (st := s_law_parents) l_law_parents c_law_parents k_law_parents
  have F_law_parents : FunX K "_law_parents" "_law_parents" s_law_parents _ _ := ⟨⟨_, _, _, _, _, _, _, _, _, _, rfl, l_law_parents, c_law_parents⟩, k_law_parents⟩
  have D_law_coins := fun_mk (st := s_law_coins) l_law_coins c_law_coins k_law_coins
  have F_law_coins : FunX K "_law_coins" "_law_coins" s_law_coins _ _ := ⟨⟨_, _, _, _, _, _, _, _, _, _, rfl, l_law_coins, c_law_coins⟩, k_law_coins⟩
  have D_law_basket := fun_mk (st := s_law_basket) l_law_basket c_law_basket k_law_basket
  have F_law_basket : FunX K "_law_basket" "_law_basket" s_law_basket _ _ := ⟨⟨_, _, _, _, _, _, _, _, _, _, rfl, l_law_basket, c_law_basket⟩, k_law_basket⟩
  have D_law_begun := fun_mk (st := s_law_begun) l_law_begun c_law_begun k_law_begun
  have F_law_begun : FunX K "_law_begun" "_law_begun" s_law_begun _ _ := ⟨⟨_, _, _, _, _, _, _, _, _, _, rfl, l_law_begun, c_law_begun⟩, k_law_begun⟩
  have D_law_voucher := fun_mk (st := s_law_voucher) l_law_voucher c_law_voucher k_law_voucher
  have F_law_voucher : FunX K "_law_voucher" "_law_voucher" s_law_voucher _ _ := ⟨⟨_, _, _, _, _, _, _, _, _, _, rfl, l_law_voucher, c_law_voucher⟩, k_law_voucher⟩
  have D_Marks_init : FunD K "__init__" "Marks.__init__" (defArgs s_Marks_init) (defBody s_Marks_init) (defScope s_Marks_init) [.non, .int 0, .non, .bl false, .bl false, .bl false] [] f_Marks_init _ := ⟨⟨_, _, _, _, _, _, _, _, _, _, rfl, l_Marks_init, c_Marks_init, .inr ⟨by simp, tp_Marks_init, _, [Value.none, Value.int 0 tk_Marks_init_1, Value.none, Value.bool false, Value.bool false, Value.bool false], _, rfl, t_Marks_init, rfl, .cons rfl (.cons ⟨_, rfl⟩ (.cons rfl (.cons rfl (.cons rfl (.cons rfl (.nil))))))⟩, .inl rfl⟩, k_Marks_init⟩
  have F_Marks_init : FunX K "__init__" "Marks.__init__" s_Marks_init _ _ := ⟨⟨_, _, _, _, _, _, _, _, _, _, rfl, l_Marks_init, c_Marks_init⟩, k_Marks_init⟩
  have D_Voucher_init : FunD K "__init__" "Voucher.__init__" (defArgs s_Voucher_init) (defBody s_Voucher_init) (defScope s_Voucher_init) [.non] [] f_Voucher_init _ := ⟨⟨_, _, _, _, _, _, _, _, _, _, rfl, l_Voucher_init, c_Voucher_init, .inr ⟨by simp, tp_Voucher_init, _, [Value.none], _, rfl, t_Voucher_init, rfl, .cons rfl (.nil)⟩, .inl rfl⟩, k_Voucher_init⟩
  have F_Voucher_init : FunX K "__init__" "Voucher.__init__" s_Voucher_init _ _ := ⟨⟨_, _, _, _, _, _, _, _, _, _, rfl, l_Voucher_init, c_Voucher_init⟩, k_Voucher_init⟩
  have D_Off_init : FunD K "__init__" "Off.__init__" (defArgs s_Off_init) (defBody s_Off_init) (defScope s_Off_init) [.non] [] f_Off_init _ := ⟨⟨_, _, _, _, _, _, _, _, _, _, rfl, l_Off_init, c_Off_init, .inr ⟨by simp, tp_Off_init, _, [Value.none], _, rfl, t_Off_init, rfl, .cons rfl (.nil)⟩, .inl rfl⟩, k_Off_init⟩
  have F_Off_init : FunX K "__init__" "Off.__init__" s_Off_init _ _ := ⟨⟨_, _, _, _, _, _, _, _, _, _, rfl, l_Off_init, c_Off_init⟩, k_Off_init⟩
  have D_Share_init : FunD K "__init__" "Share.__init__" (defArgs s_Share_init) (defBody s_Share_init) (defScope s_Share_init) [.bl false, .non] [] f_Share_init _ := ⟨⟨_, _, _, _, _, _, _, _, _, _, rfl, l_Share_init, c_Share_init, .inr ⟨by simp, tp_Share_init, _, [Value.bool false, Value.none], _, rfl, t_Share_init, rfl, .cons rfl (.cons rfl (.nil))⟩, .inl rfl⟩, k_Share_init⟩
  have F_Share_init : FunX K "__init__" "Share.__init__" s_Share_init _ _ := ⟨⟨_, _, _, _, _, _, _, _, _, _, rfl, l_Share_init, c_Share_init⟩, k_Share_init⟩
  have D_law_made := fun_mk (st := s_law_made) l_law_made c_law_made k_law_made
  have F_law_made : FunX K "_law_made" "_law_made" s_law_made _ _ := ⟨⟨_, _, _, _, _, _, _, _, _, _, rfl, l_law_made, c_law_made⟩, k_law_made⟩
  have D_Till_init : FunD K "__init__" "Till.__init__" (defArgs s_Till_init) (defBody s_Till_init) (defScope s_Till_init) [.str "again"] [] f_Till_init _ := ⟨⟨_, _, _, _, _, _, _, _, _, _, rfl, l_Till_init, c_Till_init, .inr ⟨by simp, tp_Till_init, _, [Value.str "again" tk_Till_init_0], _, rfl, t_Till_init, rfl, .cons ⟨_, rfl⟩ (.nil)⟩, .inl rfl⟩, k_Till_init⟩
  have F_Till_init : FunX K "__init__" "Till.__init__" s_Till_init _ _ := ⟨⟨_, _, _, _, _, _, _, _, _, _, rfl, l_Till_init, c_Till_init⟩, k_Till_init⟩
  have D_Line_init : FunD K "__init__" "Line.__init__" (defArgs s_Line_init) (defBody s_Line_init) (defScope s_Line_init) [.non] [] f_Line_init _ := ⟨⟨_, _, _, _, _, _, _, _, _, _, rfl, l_Line_init, c_Line_init, .inr ⟨by simp, tp_Line_init, _, [Value.none], _, rfl, t_Line_init, rfl, .cons rfl (.nil)⟩, .inl rfl⟩, k_Line_init⟩
  have F_Line_init : FunX K "__init__" "Line.__init__" s_Line_init _ _ := ⟨⟨_, _, _, _, _, _, _, _, _, _, rfl, l_Line_init, c_Line_init⟩, k_Line_init⟩
  have D_Basket_init : FunD K "__init__" "Basket.__init__" (defArgs s_Basket_init) (defBody s_Basket_init) (defScope s_Basket_init) [.int 0, .bl false] [] f_Basket_init _ := ⟨⟨_, _, _, _, _, _, _, _, _, _, rfl, l_Basket_init, c_Basket_init, .inr ⟨by simp, tp_Basket_init, _, [Value.int 0 tk_Basket_init_0, Value.bool false], _, rfl, t_Basket_init, rfl, .cons ⟨_, rfl⟩ (.cons rfl (.nil))⟩, .inl rfl⟩, k_Basket_init⟩
  have F_Basket_init : FunX K "__init__" "Basket.__init__" s_Basket_init _ _ := ⟨⟨_, _, _, _, _, _, _, _, _, _, rfl, l_Basket_init, c_Basket_init⟩, k_Basket_init⟩
  have D_law_basket_made := fun_mk (st := s_law_basket_made) l_law_basket_made c_law_basket_made k_law_basket_made
  have F_law_basket_made : FunX K "_law_basket_made" "_law_basket_made" s_law_basket_made _ _ := ⟨⟨_, _, _, _, _, _, _, _, _, _, rfl, l_law_basket_made, c_law_basket_made⟩, k_law_basket_made⟩
  have D_law_order := fun_mk (st := s_law_order) l_law_order c_law_order k_law_order
  have F_law_order : FunX K "_law_order" "_law_order" s_law_order _ _ := ⟨⟨_, _, _, _, _, _, _, _, _, _, rfl, l_law_order, c_law_order⟩, k_law_order⟩
  have D_piece_price := fun_mk (st := s_piece_price) l_piece_price c_piece_price k_piece_price
  have F_piece_price : FunX K "piece_price" "piece_price" s_piece_price _ _ := ⟨⟨_, _, _, _, _, _, _, _, _, _, rfl, l_piece_price, c_piece_price⟩, k_piece_price⟩
  have D_Standing_init := fun_mk (st := s_Standing_init) l_Standing_init c_Standing_init k_Standing_init
  have F_Standing_init : FunX K "__init__" "Standing.__init__" s_Standing_init _ _ := ⟨⟨_, _, _, _, _, _, _, _, _, _, rfl, l_Standing_init, c_Standing_init⟩, k_Standing_init⟩
  have D_never_beside := fun_mk (st := s_never_beside) l_never_beside c_never_beside k_never_beside
  have F_never_beside : FunX K "never_beside" "never_beside" s_never_beside _ _ := ⟨⟨_, _, _, _, _, _, _, _, _, _, rfl, l_never_beside, c_never_beside⟩, k_never_beside⟩
  have D_comes_late := fun_mk (st := s_comes_late) l_comes_late c_comes_late k_comes_late
  have F_comes_late : FunX K "comes_late" "comes_late" s_comes_late _ _ := ⟨⟨_, _, _, _, _, _, _, _, _, _, rfl, l_comes_late, c_comes_late⟩, k_comes_late⟩
  have D_under := fun_mk (st := s_under) l_under c_under k_under
  have F_under : FunX K "under" "under" s_under _ _ := ⟨⟨_, _, _, _, _, _, _, _, _, _, rfl, l_under, c_under⟩, k_under⟩
  have D_about := fun_mk (st := s_about) l_about c_about k_about
  have F_about : FunX K "about" "about" s_about _ _ := ⟨⟨_, _, _, _, _, _, _, _, _, _, rfl, l_about, c_about⟩, k_about⟩
  have D_hindrance := fun_mk (st := s_hindrance) l_hindrance c_hindrance k_hindrance
  have F_hindrance : FunX K "hindrance" "hindrance" s_hindrance _ _ := ⟨⟨_, _, _, _, _, _, _, _, _, _, rfl, l_hindrance, c_hindrance⟩, k_hindrance⟩
  have D_word_of := fun_mk (st := s_word_of) l_word_of c_word_of k_word_of
  have F_word_of : FunX K "word_of" "word_of" s_word_of _ _ := ⟨⟨_, _, _, _, _, _, _, _, _, _, rfl, l_word_of, c_word_of⟩, k_word_of⟩
  have D_dealt := fun_mk (st := s_dealt) l_dealt c_dealt k_dealt
  have F_dealt : FunX K "dealt" "dealt" s_dealt _ _ := ⟨⟨_, _, _, _, _, _, _, _, _, _, rfl, l_dealt, c_dealt⟩, k_dealt⟩
  have D_Off_wanted := fun_mk (st := s_Off_wanted) l_Off_wanted c_Off_wanted k_Off_wanted
  have F_Off_wanted : FunX K "wanted" "Off.wanted" s_Off_wanted _ _ := ⟨⟨_, _, _, _, _, _, _, _, _, _, rfl, l_Off_wanted, c_Off_wanted⟩, k_Off_wanted⟩
  have D_Share_wanted := fun_mk (st := s_Share_wanted) l_Share_wanted c_Share_wanted k_Share_wanted
  have F_Share_wanted : FunX K "wanted" "Share.wanted" s_Share_wanted _ _ := ⟨⟨_, _, _, _, _, _, _, _, _, _, rfl, l_Share_wanted, c_Share_wanted⟩, k_Share_wanted⟩
  have D_Voucher_wanted := fun_mk (st := s_Voucher_wanted) l_Voucher_wanted c_Voucher_wanted k_Voucher_wanted
  have F_Voucher_wanted : FunX K "wanted" "Voucher.wanted" s_Voucher_wanted _ _ := ⟨⟨_, _, _, _, _, _, _, _, _, _, rfl, l_Voucher_wanted, c_Voucher_wanted⟩, k_Voucher_wanted⟩
  have D_Voucher_wanted_carriage := fun_mk (st := s_Voucher_wanted_carriage) l_Voucher_wanted_carriage c_Voucher_wanted_carriage k_Voucher_wanted_carriage
  have F_Voucher_wanted_carriage : FunX K "wanted_carriage" "Voucher.wanted_carriage" s_Voucher_wanted_carriage _ _ := ⟨⟨_, _, _, _, _, _, _, _, _, _, rfl, l_Voucher_wanted_carriage, c_Voucher_wanted_carriage⟩, k_Voucher_wanted_carriage⟩
  have D_Carriage_wanted_carriage := fun_mk (st := s_Carriage_wanted_carriage) l_Carriage_wanted_carriage c_Carriage_wanted_carriage k_Carriage_wanted_carriage
  have F_Carriage_wanted_carriage : FunX K "wanted_carriage" "Carriage.wanted_carriage" s_Carriage_wanted_carriage _ _ := ⟨⟨_, _, _, _, _, _, _, _, _, _, rfl, l_Carriage_wanted_carriage, c_Carriage_wanted_carriage⟩, k_Carriage_wanted_carriage⟩
  have D_cuts := fun_mk (st := s_cuts) l_cuts c_cuts k_cuts
  have F_cuts : FunX K "cuts" "cuts" s_cuts _ _ := ⟨⟨_, _, _, _, _, _, _, _, _, _, rfl, l_cuts, c_cuts⟩, k_cuts⟩
  have D_after := fun_mk (st := s_after) l_after c_after k_after
  have F_after : FunX K "after" "after" s_after _ _ := ⟨⟨_, _, _, _, _, _, _, _, _, _, rfl, l_after, c_after⟩, k_after⟩
  have D_lacking := fun_mk (st := s_lacking) l_lacking c_lacking k_lacking
  have F_lacking : FunX K "lacking" "lacking" s_lacking _ _ := ⟨⟨_, _, _, _, _, _, _, _, _, _, rfl, l_lacking, c_lacking⟩, k_lacking⟩
  have D_fault := fun_mk (st := s_fault) l_fault c_fault k_fault
  have F_fault : FunX K "fault" "fault" s_fault _ _ := ⟨⟨_, _, _, _, _, _, _, _, _, _, rfl, l_fault, c_fault⟩, k_fault⟩
  have D_law_under := fun_mk (st := s_law_under) l_law_under c_law_under k_law_under
  have F_law_under : FunX K "_law_under" "_law_under" s_law_under _ _ := ⟨⟨_, _, _, _, _, _, _, _, _, _, rfl, l_law_under, c_law_under⟩, k_law_under⟩
  have D_law_about := fun_mk (st := s_law_about) l_law_about c_law_about k_law_about
  have F_law_about : FunX K "_law_about" "_law_about" s_law_about _ _ := ⟨⟨_, _, _, _, _, _, _, _, _, _, rfl, l_law_about, c_law_about⟩, k_law_about⟩
  have D_law_hindrance := fun_mk (st := s_law_hindrance) l_law_hindrance c_law_hindrance k_law_hindrance
  have F_law_hindrance : FunX K "_law_hindrance" "_law_hindrance" s_law_hindrance _ _ := ⟨⟨_, _, _, _, _, _, _, _, _, _, rfl, l_law_hindrance, c_law_hindrance⟩, k_law_hindrance⟩
  have D_law_used := fun_mk (st := s_law_used) l_law_used c_law_used k_law_used
  have F_law_used : FunX K "_law_used" "_law_used" s_law_used _ _ := ⟨⟨_, _, _, _, _, _, _, _, _, _, rfl, l_law_used, c_law_used⟩, k_law_used⟩
  have D_law_due := fun_mk (st := s_law_due) l_law_due c_law_due k_law_due
  have F_law_due : FunX K "_law_due" "_law_due" s_law_due _ _ := ⟨⟨_, _, _, _, _, _, _, _, _, _, rfl, l_law_due, c_law_due⟩, k_law_due⟩
  have D_law_alike := fun_mk (st := s_law_alike) l_law_alike c_law_alike k_law_alike
  have F_law_alike : FunX K "_law_alike" "_law_alike" s_law_alike _ _ := ⟨⟨_, _, _, _, _, _, _, _, _, _, rfl, l_law_alike, c_law_alike⟩, k_law_alike⟩
  have D_law := fun_mk (st := s_law) l_law c_law k_law
  have F_law : FunX K "law" "law" s_law _ _ := ⟨⟨_, _, _, _, _, _, _, _, _, _, rfl, l_law, c_law⟩, k_law⟩
  obtain ⟨ds_Basket_init_4, v_Basket_init_4, b_Basket_init_4⟩ := D_Basket_init.binds1 (ps := ["self", "lines", "carriage", "member"]) 4 2 (by simp) rfl fun _ _ _ _ _ _ _ us its h1 h2 => match us, h1, its, h2 with | [_, _, _, _], _, [_, _], _ => ⟨_, rfl, rfl⟩
  have b_Carriage_wanted_carriage_2 : Binds K _ ["self", "carriage"] [] := D_Carriage_wanted_carriage.binds (ps := ["self", "carriage"]) fun _ _ _ _ _ _ us hl => match us, hl with | [_, _], _ => rfl
  obtain ⟨ds_Line_init_5, v_Line_init_5, b_Line_init_5⟩ := D_Line_init.binds1 (ps := ["self", "kind", "price", "many", "special"]) 5 1 (by simp) rfl fun _ _ _ _ _ _ _ us its h1 h2 => match us, h1, its, h2 with | [_, _, _, _, _], _, [_], _ => ⟨_, rfl, rfl⟩
  obtain ⟨ds_Marks_init_1, v_Marks_init_1, b_Marks_init_1⟩ := D_Marks_init.binds1 (ps := ["self", "kind", "needs", "most", "member", "once", "lone"]) 1 0 (by simp) rfl fun _ _ _ _ _ _ _ us its h1 h2 => match us, h1, its, h2 with | [_], _, [_, _, _, _, _, _], _ => ⟨_, rfl, rfl⟩
  obtain ⟨ds_Marks_init_7, v_Marks_init_7, b_Marks_init_7⟩ := D_Marks_init.binds1 (ps := ["self", "kind", "needs", "most", "member", "once", "lone"]) 7 6 (by simp) rfl fun _ _ _ _ _ _ _ us its h1 h2 => match us, h1, its, h2 with | [_, _, _, _, _, _, _], _, [_, _, _, _, _, _], _ => ⟨_, rfl, rfl⟩
  obtain ⟨ds_Off_init_3, v_Off_init_3, b_Off_init_3⟩ := D_Off_init.binds1 (ps := ["self", "amount", "marks"]) 3 1 (by simp) rfl fun _ _ _ _ _ _ _ us its h1 h2 => match us, h1, its, h2 with | [_, _, _], _, [_], _ => ⟨_, rfl, rfl⟩
  have b_Off_wanted_3 : Binds K _ ["self", "prices", "owners"] [] := D_Off_wanted.binds (ps := ["self", "prices", "owners"]) fun _ _ _ _ _ _ us hl => match us, hl with | [_, _, _], _ => rfl
  obtain ⟨ds_Share_init_4, v_Share_init_4, b_Share_init_4⟩ := D_Share_init.binds1 (ps := ["self", "share", "by_line", "marks"]) 4 2 (by simp) rfl fun _ _ _ _ _ _ _ us its h1 h2 => match us, h1, its, h2 with | [_, _, _, _], _, [_, _], _ => ⟨_, rfl, rfl⟩
  have b_Share_wanted_3 : Binds K _ ["self", "prices", "owners"] [] := D_Share_wanted.binds (ps := ["self", "prices", "owners"]) fun _ _ _ _ _ _ us hl => match us, hl with | [_, _, _], _ => rfl
  have b_Standing_init_2 : Binds K _ ["self", "basket"] [] := D_Standing_init.binds (ps := ["self", "basket"]) fun _ _ _ _ _ _ us hl => match us, hl with | [_, _], _ => rfl
  obtain ⟨ds_Till_init_4, v_Till_init_4, b_Till_init_4⟩ := D_Till_init.binds1 (ps := ["self", "parents", "vouchers", "rules", "back"]) 4 0 (by simp) rfl fun _ _ _ _ _ _ _ us its h1 h2 => match us, h1, its, h2 with | [_, _, _, _], _, [_], _ => ⟨_, rfl, rfl⟩
  obtain ⟨ds_Voucher_init_2, v_Voucher_init_2, b_Voucher_init_2⟩ := D_Voucher_init.binds1 (ps := ["self", "marks"]) 2 1 (by simp) rfl fun _ _ _ _ _ _ _ us its h1 h2 => match us, h1, its, h2 with | [_, _], _, [_], _ => ⟨_, rfl, rfl⟩
  have b_Voucher_wanted_3 : Binds K _ ["self", "prices", "owners"] [] := D_Voucher_wanted.binds (ps := ["self", "prices", "owners"]) fun _ _ _ _ _ _ us hl => match us, hl with | [_, _, _], _ => rfl
  have b_Voucher_wanted_carriage_2 : Binds K _ ["self", "carriage"] [] := D_Voucher_wanted_carriage.binds (ps := ["self", "carriage"]) fun _ _ _ _ _ _ us hl => match us, hl with | [_, _], _ => rfl
  have b_about_4 : Binds K _ ["voucher", "parents", "basket", "standing"] [] := D_about.binds (ps := ["voucher", "parents", "basket", "standing"]) fun _ _ _ _ _ _ us hl => match us, hl with | [_, _, _, _], _ => rfl
  have b_after_4 : Binds K _ ["voucher", "parents", "basket", "standing"] [] := D_after.binds (ps := ["voucher", "parents", "basket", "standing"]) fun _ _ _ _ _ _ us hl => match us, hl with | [_, _, _, _], _ => rfl
  have b_comes_late_3 : Binds K _ ["till", "ahead", "voucher"] [] := D_comes_late.binds (ps := ["till", "ahead", "voucher"]) fun _ _ _ _ _ _ us hl => match us, hl with | [_, _, _], _ => rfl
  have b_cuts_4 : Binds K _ ["voucher", "parents", "basket", "standing"] [] := D_cuts.binds (ps := ["voucher", "parents", "basket", "standing"]) fun _ _ _ _ _ _ us hl => match us, hl with | [_, _, _, _], _ => rfl
  have b_dealt_2 : Binds K _ ["cut", "weights"] [] := D_dealt.binds (ps := ["cut", "weights"]) fun _ _ _ _ _ _ us hl => match us, hl with | [_, _], _ => rfl
  have b_fault_4 : Binds K _ ["till", "basket", "hand", "order"] [] := D_fault.binds (ps := ["till", "basket", "hand", "order"]) fun _ _ _ _ _ _ us hl => match us, hl with | [_, _, _, _], _ => rfl
  have b_hindrance_4 : Binds K _ ["voucher", "parents", "basket", "standing"] [] := D_hindrance.binds (ps := ["voucher", "parents", "basket", "standing"]) fun _ _ _ _ _ _ us hl => match us, hl with | [_, _, _, _], _ => rfl
  have b_lacking_2 : Binds K _ ["till", "order"] [] := D_lacking.binds (ps := ["till", "order"]) fun _ _ _ _ _ _ us hl => match us, hl with | [_, _], _ => rfl
  have b_law_about_4 : Binds K _ ["_law_voucher_here", "_law_parents_here", "_law_told", "_law_state"] [] := D_law_about.binds (ps := ["_law_voucher_here", "_law_parents_here", "_law_told", "_law_state"]) fun _ _ _ _ _ _ us hl => match us, hl with | [_, _, _, _], _ => rfl
  have b_law_alike_2 : Binds K _ ["_law_found", "_law_due_here"] [] := D_law_alike.binds (ps := ["_law_found", "_law_due_here"]) fun _ _ _ _ _ _ us hl => match us, hl with | [_, _], _ => rfl
  have b_law_basket_3 : Binds K _ ["_law_cell_here", "_law_kinds", "_law_great"] [] := D_law_basket.binds (ps := ["_law_cell_here", "_law_kinds", "_law_great"]) fun _ _ _ _ _ _ us hl => match us, hl with | [_, _, _], _ => rfl
  have b_law_basket_made_1 : Binds K _ ["_law_told"] [] := D_law_basket_made.binds (ps := ["_law_told"]) fun _ _ _ _ _ _ us hl => match us, hl with | [_], _ => rfl
  have b_law_begun_1 : Binds K _ ["_law_told"] [] := D_law_begun.binds (ps := ["_law_told"]) fun _ _ _ _ _ _ us hl => match us, hl with | [_], _ => rfl
  have b_law_cell_2 : Binds K _ ["_law_script", "_law_k"] [] := D_law_cell.binds (ps := ["_law_script", "_law_k"]) fun _ _ _ _ _ _ us hl => match us, hl with | [_, _], _ => rfl
  have b_law_coins_2 : Binds K _ ["_law_drawn", "_law_great"] [] := D_law_coins.binds (ps := ["_law_drawn", "_law_great"]) fun _ _ _ _ _ _ us hl => match us, hl with | [_, _], _ => rfl
  have b_law_due_2 : Binds K _ ["_law_world", "_law_order_here"] [] := D_law_due.binds (ps := ["_law_world", "_law_order_here"]) fun _ _ _ _ _ _ us hl => match us, hl with | [_, _], _ => rfl
  have b_law_hindrance_4 : Binds K _ ["_law_voucher_here", "_law_told", "_law_pieces", "_law_state"] [] := D_law_hindrance.binds (ps := ["_law_voucher_here", "_law_told", "_law_pieces", "_law_state"]) fun _ _ _ _ _ _ us hl => match us, hl with | [_, _, _, _], _ => rfl
  have b_law_made_1 : Binds K _ ["_law_told"] [] := D_law_made.binds (ps := ["_law_told"]) fun _ _ _ _ _ _ us hl => match us, hl with | [_], _ => rfl
  have b_law_mixed_2 : Binds K _ ["_law_cell_here", "_law_k"] [] := D_law_mixed.binds (ps := ["_law_cell_here", "_law_k"]) fun _ _ _ _ _ _ us hl => match us, hl with | [_, _], _ => rfl
  have b_law_order_2 : Binds K _ ["_law_cell_here", "_law_many"] [] := D_law_order.binds (ps := ["_law_cell_here", "_law_many"]) fun _ _ _ _ _ _ us hl => match us, hl with | [_, _], _ => rfl
  have b_law_parents_1 : Binds K _ ["_law_cell_here"] [] := D_law_parents.binds (ps := ["_law_cell_here"]) fun _ _ _ _ _ _ us hl => match us, hl with | [_], _ => rfl
  have b_law_under_3 : Binds K _ ["_law_parents_here", "_law_one", "_law_other"] [] := D_law_under.binds (ps := ["_law_parents_here", "_law_one", "_law_other"]) fun _ _ _ _ _ _ us hl => match us, hl with | [_, _, _], _ => rfl
  have b_law_used_3 : Binds K _ ["_law_voucher_here", "_law_pieces", "_law_state"] [] := D_law_used.binds (ps := ["_law_voucher_here", "_law_pieces", "_law_state"]) fun _ _ _ _ _ _ us hl => match us, hl with | [_, _, _], _ => rfl
  have b_law_voucher_4 : Binds K _ ["_law_cell_here", "_law_kinds", "_law_great", "_law_total"] [] := D_law_voucher.binds (ps := ["_law_cell_here", "_law_kinds", "_law_great", "_law_total"]) fun _ _ _ _ _ _ us hl => match us, hl with | [_, _, _, _], _ => rfl
  have b_never_beside_3 : Binds K _ ["till", "ahead", "voucher"] [] := D_never_beside.binds (ps := ["till", "ahead", "voucher"]) fun _ _ _ _ _ _ us hl => match us, hl with | [_, _, _], _ => rfl
  have b_piece_price_2 : Binds K _ ["line", "member"] [] := D_piece_price.binds (ps := ["line", "member"]) fun _ _ _ _ _ _ us hl => match us, hl with | [_, _], _ => rfl
  have b_under_3 : Binds K _ ["parents", "one", "other"] [] := D_under.binds (ps := ["parents", "one", "other"]) fun _ _ _ _ _ _ us hl => match us, hl with | [_, _, _], _ => rfl
  have b_word_of_6 : Binds K _ ["till", "basket", "hand", "ahead", "voucher", "standing"] [] := D_word_of.binds (ps := ["till", "basket", "hand", "ahead", "voucher", "standing"]) fun _ _ _ _ _ _ us hl => match us, hl with | [_, _, _, _, _, _], _ => rfl
  exact ⟨_, fun s v => .of_eq rfl, fun base _ _ => ok_law ⟨_, PySem.W.mg_of X G a_Marks, ⟨pg_Marks, hd_Marks, po_Marks, sa_Marks⟩, _, PySem.W.mg_of X G a_Off, ⟨pg_Off, hd_Off, po_Off, sa_Off⟩, _, PySem.W.mg_of X G a_Share, ⟨pg_Share, hd_Share, po_Share, sa_Share⟩, _, PySem.W.mg_of X G a_Carriage, ⟨pg_Carriage, hd_Carriage, po_Carriage, sa_Carriage⟩, _, PySem.W.mg_of X G a_Voucher, ⟨pg_Voucher, hd_Voucher, po_Voucher, sa_Voucher⟩, _, PySem.W.mg_of X G a_Till, ⟨pg_Till, hd_Till, po_Till, sa_Till⟩, _, PySem.W.mg_of X G a_Line, ⟨pg_Line, hd_Line, po_Line, sa_Line⟩, _, PySem.W.mg_of X G a_Basket, ⟨pg_Basket, hd_Basket, po_Basket, sa_Basket⟩, _, PySem.W.mg_of X G a_Standing, ⟨pg_Standing, hd_Standing, po_Standing, sa_Standing⟩, n_Basket_carriage, n_Basket_lines, n_Basket_member, n_Carriage_marks, n_Line_kind, n_Line_many, n_Line_price, n_Line_special, n_Marks_kind, n_Marks_lone, n_Marks_member, n_Marks_most, n_Marks_needs, n_Marks_once, n_Off_amount, n_Off_marks, n_Share_by_line, n_Share_marks, n_Share_share, n_Standing_carriage, n_Standing_marked, n_Standing_owners, n_Standing_prices, n_Till_back, n_Till_parents, n_Till_rules, n_Till_vouchers, _, _, F_law_cell, PySem.W.mg_of X G a_law_cell, k_law_cell, _, _, F_law_mixed, PySem.W.mg_of X G a_law_mixed, k_law_mixed, _, _, F_law_parents, PySem.W.mg_of X G a_law_parents, k_law_parents, _, _, F_law_coins, PySem.W.mg_of X G a_law_coins, k_law_coins, _, _, F_law_basket, PySem.W.mg_of X G a_law_basket, k_law_basket, _, _, F_law_begun, PySem.W.mg_of X G a_law_begun, k_law_begun, _, _, F_law_voucher, PySem.W.mg_of X G a_law_voucher, k_law_voucher, _, _, F_Marks_init, k_Marks_init, _, _, F_Voucher_init, k_Voucher_init, _, _, F_Off_init, k_Off_init, _, _, F_Share_init, k_Share_init, _, _, F_law_made, PySem.W.mg_of X G a_law_made, k_law_made, _, _, F_Till_init, k_Till_init, _, _, F_Line_init, k_Line_init, _, _, F_Basket_init, k_Basket_init, _, _, F_law_basket_made, PySem.W.mg_of X G a_law_basket_made, k_law_basket_made, _, _, F_law_order, PySem.W.mg_of X G a_law_order, k_law_order, _, _, F_piece_price, PySem.W.mg_of X G a_piece_price, k_piece_price, _, _, F_Standing_init, k_Standing_init, _, _, F_never_beside, PySem.W.mg_of X G a_never_beside, k_never_beside, _, _, F_comes_late, PySem.W.mg_of X G a_comes_late, k_comes_late, _, _, F_under, PySem.W.mg_of X G a_under, k_under, _, _, F_about, PySem.W.mg_of X G a_about, k_about, _, _, F_hindrance, PySem.W.mg_of X G a_hindrance, k_hindrance, _, _, F_word_of, PySem.W.mg_of X G a_word_of, k_word_of, _, _, F_dealt, PySem.W.mg_of X G a_dealt, k_dealt, _, _, F_Off_wanted, k_Off_wanted, _, _, F_Share_wanted, k_Share_wanted, _, _, F_Voucher_wanted, k_Voucher_wanted, _, _, F_Voucher_wanted_carriage, k_Voucher_wanted_carriage, _, _, F_Carriage_wanted_carriage, k_Carriage_wanted_carriage, _, _, F_cuts, PySem.W.mg_of X G a_cuts, k_cuts, _, _, F_after, PySem.W.mg_of X G a_after, k_after, _, _, F_lacking, PySem.W.mg_of X G a_lacking, k_lacking, _, _, F_fault, PySem.W.mg_of X G a_fault, k_fault, _, _, F_law_under, PySem.W.mg_of X G a_law_under, k_law_under, _, _, F_law_about, PySem.W.mg_of X G a_law_about, k_law_about, _, _, F_law_hindrance, PySem.W.mg_of X G a_law_hindrance, k_law_hindrance, _, _, F_law_used, PySem.W.mg_of X G a_law_used, k_law_used, _, _, F_law_due, PySem.W.mg_of X G a_law_due, k_law_due, _, _, F_law_alike, PySem.W.mg_of X G a_law_alike, k_law_alike, _, _, F_law, PySem.W.mg_of X G a_law, k_law, (match ds_Basket_init_4, v_Basket_init_4, b_Basket_init_4 with | [], _, b => b), b_Carriage_wanted_carriage_2, (match ds_Line_init_5, v_Line_init_5, b_Line_init_5 with | [], _, b => b), ds_Marks_init_1, b_Marks_init_1, v_Marks_init_1, (match ds_Marks_init_7, v_Marks_init_7, b_Marks_init_7 with | [], _, b => b), (match ds_Off_init_3, v_Off_init_3, b_Off_init_3 with | [], _, b => b), b_Off_wanted_3, (match ds_Share_init_4, v_Share_init_4, b_Share_init_4 with | [], _, b => b), b_Share_wanted_3, b_Standing_init_2, ds_Till_init_4, b_Till_init_4, v_Till_init_4, (match ds_Voucher_init_2, v_Voucher_init_2, b_Voucher_init_2 with | [], _, b => b), b_Voucher_wanted_3, b_Voucher_wanted_carriage_2, b_about_4, b_after_4, b_comes_late_3, b_cuts_4, b_dealt_2, b_fault_4, b_hindrance_4, b_lacking_2, b_law_about_4, b_law_alike_2, b_law_basket_3, b_law_basket_made_1, b_law_begun_1, b_law_cell_2, b_law_coins_2, b_law_due_2, b_law_hindrance_4, b_law_made_1, b_law_mixed_2, b_law_order_2, b_law_parents_1, b_law_under_3, b_law_used_3, b_law_voucher_4, b_never_beside_3, b_piece_price_2, b_under_3, b_word_of_6, ⟨mm_Basket, mi_Basket, mf_Basket, mk_Basket⟩, ⟨mm_Carriage, mi_Carriage, mf_Carriage, mk_Carriage⟩, ⟨mm_Line, mi_Line, mf_Line, mk_Line⟩, ⟨mm_Marks, mi_Marks, mf_Marks, mk_Marks⟩, ⟨mm_Off, mi_Off, mf_Off, mk_Off⟩, ⟨mm_Share, mi_Share, mf_Share, mk_Share⟩, ⟨mm_Standing, mi_Standing, mf_Standing, mk_Standing⟩, ⟨mm_Till, mi_Till, mf_Till, mk_Till⟩, ⟨ma_Carriage_Voucher_wanted, mn_Carriage_Voucher_wanted, k_Voucher_wanted⟩, ⟨ma_Carriage_Carriage_wanted_carriage, mn_Carriage_Carriage_wanted_carriage, k_Carriage_wanted_carriage⟩, ⟨ma_Off_Off_wanted, mn_Off_Off_wanted, k_Off_wanted⟩, ⟨ma_Off_Voucher_wanted_carriage, mn_Off_Voucher_wanted_carriage, k_Voucher_wanted_carriage⟩, ⟨ma_Share_Share_wanted, mn_Share_Share_wanted, k_Share_wanted⟩, ⟨ma_Share_Voucher_wanted_carriage, mn_Share_Voucher_wanted_carriage, k_Voucher_wanted_carriage⟩, ⟨cr_Voucher, cg_Voucher⟩, ⟨cv_Voucher_Voucher_init, rfl⟩, PySem.W.mg_none_of X G z_all, PySem.W.mg_none_of X G z_bool, PySem.W.mg_none_of X G z_enumerate, PySem.W.mg_none_of X G z_int, PySem.W.mg_none_of X G z_isinstance, PySem.W.mg_none_of X G z_len, PySem.W.mg_none_of X G z_list, PySem.W.mg_none_of X G z_min, PySem.W.mg_none_of X G z_range, PySem.W.mg_none_of X G z_set, PySem.W.mg_none_of X G z_sorted, PySem.W.mg_none_of X G z_str, PySem.W.mg_none_of X G z_sum, PySem.W.mg_none_of X G z_tuple, PySem.W.mg_none_of X G z_zip⟩⟩
end Law
namespace Law
variable [T.TabsC]
open PySem T L2
/-! the parts -/
def parts (cut W : Int) : Int → List Int → List Int
  | _, [] => []
  | acc, w :: ws => (cut * (acc + w) / W - cut * acc / W) :: parts cut W (acc + w) ws
theorem parts_len (cut W : Int) : ∀ (acc : Int) (ws : List Int), (parts cut W acc ws).length = ws.length
  | _, [] => rfl
  | acc, w :: ws => by
    show (parts cut W (acc + w) ws).length + 1 = ws.length + 1
    rw [parts_len]
theorem parts_app (cut W : Int) : ∀ (acc : Int) (ws : List Int) (w : Int), parts cut W acc (ws ++ [w]) = parts cut W acc ws ++ [cut * (acc + ws.sum + w) / W - cut * (acc + ws.sum) / W]
  | acc, [], w => by
    show [_] = [_]
    simp
  | acc, v :: ws, w => by
    show _ :: parts cut W (acc + v) (ws ++ [w]) = _
    rw [parts_app, List.sum_cons]
    have e : acc + v + ws.sum = acc + (v + ws.sum) := by omega
    rw [e]; rfl
theorem sum_nonneg : ∀ {ws : List Int}, (∀ w ∈ ws, 0 ≤ w) → 0 ≤ ws.sum
  | [], _ => Int.le_refl 0
  | w :: ws, h => by
    rw [List.sum_cons]
    have h1 := h w List.mem_cons_self
    have h2 := sum_nonneg (ws := ws) fun v hv => h v (List.mem_cons_of_mem _ hv)
    omega
theorem sum_le {b : Int} : ∀ {ws : List Int}, (∀ w ∈ ws, w ≤ b) → ws.sum ≤ b * ws.length
  | [], _ => by simp
  | w :: ws, h => by
    rw [List.sum_cons, List.length_cons]
    have h1 := h w List.mem_cons_self
    have h2 := sum_le (ws := ws) fun v hv => h v (List.mem_cons_of_mem _ hv)
    rw [Int.natCast_add, Int.mul_add]
    omega
theorem dealt_ok (cut : Int) (ws : List Int) (hc : 0 ≤ cut) (hc2 : cut < 2 ^ 64) (hW : 0 ≤ ws.sum) (hW2 : ws.sum < 2 ^ 1000) (hl : ws.length ≤ 1000) : M.dealt cut ws = some (parts cut ws.sum 0 ws) := by
  unfold M.dealt
  obtain ⟨s, e, h1, h2, h3⟩ := loopN_ind (as := ws) (f := fun (z1 : (Int × (List Int) × Int)) (x_weight : Int) => (let x_upto : Int := (z1.1 + x_weight); ((if (decide (ws.sum > (0 : Int))) = true then ((mulO cut x_upto) >>= fun v2 => (divO v2 ws.sum)) else some ((0 : Int))) >>= fun x_share => (appO z1.2.1 (x_share - z1.2.2) >>= fun x_parts => some (let x_given_out : Int := x_share; (x_upto, x_parts, x_given_out)))))) (s0 := (0, [], 0))
    (fun pre s => s.1 = pre.sum ∧ s.2.1 = parts cut ws.sum 0 pre ∧ s.2.2 = cut * pre.sum / ws.sum) ⟨rfl, rfl, by simp⟩ (fun pre w post s e ⟨h1, h2, h3⟩ => by
      have hd : (if (decide (ws.sum > (0 : Int))) = true then ((mulO cut (s.1 + w)) >>= fun v2 => (divO v2 ws.sum)) else some ((0 : Int))) = some (cut * (pre.sum + w) / ws.sum) := by
        by_cases hp : ws.sum > 0
        · rw [if_pos (decide_eq_true hp), mulO_l (by omega) hc2, bindP, divO_ok hp hW2, h1]
        · rw [if_neg (by rw [decide_eq_true_eq]; exact hp)]
          have : ws.sum = 0 := by omega
          rw [this, Int.ediv_zero]
      have hz : pre.length < 16777216 := by
        have : ws.length = pre.length + (post.length + 1) := by rw [e]; simp
        omega
      refine ⟨(pre.sum + w, parts cut ws.sum 0 (pre ++ [w]), cut * (pre.sum + w) / ws.sum), ?_, by rw [List.sum_append]; simp, rfl, by rw [List.sum_append]; simp⟩
      show ((if (decide (ws.sum > (0 : Int))) = true then ((mulO cut (s.1 + w)) >>= fun v2 => (divO v2 ws.sum)) else some ((0 : Int))) >>= fun x_share => (appO s.2.1 (x_share - s.2.2) >>= fun x_parts => some (s.1 + w, x_parts, x_share))) = _
      rw [hd, bindP, h2, appO_ok (by rw [parts_len]; exact hz), bindP, parts_app, h1, h3]
      simp)
  show (loopN _ ws (0, [], 0) >>= _) = _
  rw [e, bindP, h2]
end Law
namespace Law
variable [T.TabsC]
open PySem T L2
/-! kinds in trees: each parent stands ahead -/
def Wf (ps : List (Option Int)) : Prop := ∀ (k : Nat) (j : Int), ps[k]? = some (some j) → 0 ≤ j ∧ j < k
def chain (ps : List (Option Int)) : Nat → Int → List Int
  | 0, k => [k]
  | n + 1, k => k :: (match ps[k.toNat]? with
    | some (some j) => chain ps n j
    | _ => [])
/-- a kind and all above it -/
def ups (ps : List (Option Int)) (k : Int) : List Int := chain ps k.toNat k
theorem chain_zero {ps : List (Option Int)} (w : Wf ps) {k : Int} (h : k = 0) (n : Nat) : chain ps n k = [k] := by
  cases n with
  | zero => rfl
  | succ n =>
    show k :: _ = [k]
    have e : k.toNat = 0 := by omega
    rw [e]
    cases q : ps[0]? with
    | none => rfl
    | some o =>
      cases o with
      | none => rfl
      | some j => have := w 0 j q; omega
theorem chain_fuel {ps : List (Option Int)} (w : Wf ps) : ∀ (n : Nat) (k : Int), 0 ≤ k → k.toNat ≤ n → chain ps n k = chain ps k.toNat k
  | 0, k, h0, h => by
    have e : k.toNat = 0 := by omega
    rw [e]
  | n + 1, k, h0, h => by
    by_cases hk : k = 0
    · rw [chain_zero w hk, chain_zero w hk]
    · obtain ⟨m, hm⟩ : ∃ m, k.toNat = m + 1 := ⟨k.toNat - 1, by omega⟩
      rw [hm]
      show k :: _ = k :: _
      congr 1
      cases q : ps[k.toNat]? with
      | none => rfl
      | some o =>
        cases o with
        | none => rfl
        | some j =>
          have := w _ j q
          show chain ps n j = chain ps m j
          rw [chain_fuel w n j (by omega) (by omega), chain_fuel w m j (by omega) (by omega)]
theorem ups_eq {ps : List (Option Int)} (w : Wf ps) {k : Int} (h : 0 ≤ k) : ups ps k = k :: (match ps[k.toNat]? with
    | some (some j) => ups ps j
    | _ => []) := by
  by_cases hk : k = 0
  · unfold ups
    rw [chain_zero w hk]
    have e : k.toNat = 0 := by omega
    rw [e]
    cases q : ps[0]? with
    | none => rfl
    | some o =>
      cases o with
      | none => rfl
      | some j => have := w 0 j q; omega
  · obtain ⟨m, hm⟩ : ∃ m, k.toNat = m + 1 := ⟨k.toNat - 1, by omega⟩
    show chain ps k.toNat k = _
    rw [hm]
    show k :: (match ps[k.toNat]? with
      | some (some j) => chain ps m j
      | _ => []) = _
    rw [← hm]
    congr 1
    cases q : ps[k.toNat]? with
    | none => rfl
    | some o =>
      cases o with
      | none => rfl
      | some j =>
        have := w _ j q
        exact chain_fuel w m j (by omega) (by omega)
/-- the walk up -/
theorem while_up {ps : List (Option Int)} (w : Wf ps) (other : Int) {ρ : Type} {cm : Option Int → Option Bool} {fb : Option Int → Option (Ctl (Option Int) (Option Int) ρ)}
    (hc : ∀ z, cm z = some (z.isSome && !decide (z = (some other : Option Int)))) (hf : ∀ z, fb z = ((z >>= fun v => atO ps v) >>= fun x => some (Ctl.nx x))) :
    ∀ (n : Nat) (k : Int), 0 ≤ k → k < ps.length → k.toNat ≤ n → ∀ N, n + 2 ≤ N → whileC cm fb N (some k) = some (.nx (if other ∈ ups ps k then some other else none)) := by
  intro n
  induction n with
  | zero =>
    intro k h0 hl h N hN
    have e : k = 0 := by omega
    obtain ⟨N', rfl⟩ : ∃ N', N = N' + 2 := ⟨N - 2, by omega⟩
    have hu : ups ps k = [k] := by unfold ups; rw [chain_zero w e]
    rw [hu]
    unfold whileC
    rw [hc, bindP]
    by_cases hk : k = other
    · subst hk
      simp
    · rw [if_pos (by simp [hk]), hf, bindP, atO_get h0 hl, bindP, bindP]
      have hz : ps[k.toNat]'(by omega) = none := by
        have e0 : k.toNat = 0 := by omega
        cases q : ps[k.toNat]'(by omega) with
        | none => rfl
        | some j =>
          have := w k.toNat j (by rw [List.getElem?_eq_getElem (by omega), q])
          omega
      rw [hz]
      show whileC cm fb (N' + 1) none = _
      unfold whileC
      rw [hc, bindP, if_neg (by simp), if_neg (by simp; omega)]
  | succ n ih =>
    intro k h0 hl h N hN
    obtain ⟨N', rfl⟩ : ∃ N', N = N' + 1 := ⟨N - 1, by omega⟩
    rw [ups_eq w h0]
    unfold whileC
    rw [hc, bindP]
    by_cases hk : k = other
    · subst hk
      simp
    · rw [if_pos (by simp [hk]), hf, bindP, atO_get h0 hl, bindP, bindP, List.getElem?_eq_getElem (show k.toNat < ps.length by omega)]
      cases q : ps[k.toNat]'(by omega) with
      | none =>
        show whileC cm fb N' none = _
        obtain ⟨N2, rfl⟩ : ∃ N2, N' = N2 + 1 := ⟨N' - 1, by omega⟩
        unfold whileC
        rw [hc, bindP, if_neg (by simp), if_neg (by simp; omega)]
      | some j =>
        have := w k.toNat j (by rw [List.getElem?_eq_getElem (by omega), q])
        show whileC cm fb N' (some j) = _
        rw [ih j (by omega) (by omega) (by omega) N' (by omega)]
        have e : (other ∈ k :: ups ps j) ↔ (other ∈ ups ps j) := by
          rw [List.mem_cons]
          exact ⟨fun z => z.resolve_left (fun y => hk y.symm), .inr⟩
        simp only [e]
theorem under_ok {ps : List (Option Int)} (w : Wf ps) {k other : Int} (h0 : 0 ≤ k) (hl : k < ps.length) (hm : ps.length ≤ 1000) : M.under ps (some k) other = some (decide (other ∈ ups ps k)) := by
  unfold M.under
  rw [while_up w other (fun _ => rfl) (fun _ => rfl) k.toNat k h0 hl (Nat.le_refl _) 1000000 (by omega), bindP]
  show some _ = some _
  by_cases h : other ∈ ups ps k
  · rw [if_pos h, decide_eq_true h]; rfl
  · rw [if_neg h, decide_eq_false h]; rfl
end Law
namespace Law
variable [T.TabsC]
open PySem T L2
/-! a basket's standing -/
def pp (l : LineD) (m : Bool) : Int := if (m && l.f_special.isSome) = true then l.f_special.getD 0 else l.f_price
theorem piece_ok (l : LineD) (m : Bool) : M.piece_price l m = some (pp l m) := by
  unfold M.piece_price pp
  cases m <;> cases q : l.f_special <;> rfl
def ownersOf (ls : List LineD) : List Int := (enumL ls).flatMap fun t => List.replicate t.x1.f_many.toNat t.x0
def pricesOf (ls : List LineD) (m : Bool) : List Int := (enumL ls).flatMap fun t => List.replicate t.x1.f_many.toNat (pp t.x1 m)
theorem flat_len {α β : Type} {g : α → List β} {n : Nat} : ∀ {as : List α}, (∀ a ∈ as, (g a).length ≤ n) → (as.flatMap g).length ≤ n * as.length
  | [], _ => Nat.le_refl _
  | a :: as, h => by
    have h1 := flat_len (as := as) fun b hb => h b (List.mem_cons_of_mem _ hb)
    have h2 := h a List.mem_cons_self
    rw [List.flatMap_cons, List.length_append, List.length_cons, Nat.mul_add]
    omega
theorem flat_snoc {α β : Type} (g : α → List β) (as : List α) (a : α) : (as ++ [a]).flatMap g = as.flatMap g ++ g a := by
  rw [List.flatMap_append, List.flatMap_cons, List.flatMap_nil, List.append_nil]
theorem enum_mem {α : Type} {as : List α} {t : T2 Int α} (h : t ∈ enumL as) : t.x1 ∈ as := by
  obtain ⟨i, hi⟩ := List.getElem?_of_mem h
  unfold enumL at hi
  rw [List.getElem?_map, List.getElem?_zipIdx] at hi
  cases q : as[i]? with
  | none => rw [q] at hi; cases hi
  | some a => rw [q] at hi; cases hi; exact List.mem_of_getElem? q
theorem enum_len' {α : Type} (as : List α) : (enumL as).length = as.length := by unfold enumL; simp
theorem rep_snoc {α : Type} (n : Nat) (x : α) : List.replicate (n + 1) x = List.replicate n x ++ [x] := by
  rw [List.replicate_succ']
theorem stand_ok (b : BasketD) (hl : b.f_lines.length ≤ 100) (hm : ∀ l ∈ b.f_lines, 0 ≤ l.f_many ∧ l.f_many ≤ 1000) :
    M.Standing_init b = some ⟨ownersOf b.f_lines, pricesOf b.f_lines b.f_member, b.f_carriage, b.f_lines.map fun _ => false⟩ := by
  unfold M.Standing_init
  show (loopN _ (enumL b.f_lines) (([] : List Int), ([] : List Int), b.f_carriage, b.f_lines.map fun _ => false) >>= _) = _
  have hb : ∀ t ∈ enumL b.f_lines, 0 ≤ t.x1.f_many ∧ t.x1.f_many ≤ 1000 := fun t ht => hm _ (enum_mem ht)
  have he : (enumL b.f_lines).length = b.f_lines.length := enum_len' _
  refine loopN_eq (fun pre s => s = (pre.flatMap (fun t => List.replicate t.x1.f_many.toNat t.x0), pre.flatMap (fun t => List.replicate t.x1.f_many.toNat (pp t.x1 b.f_member)), b.f_carriage, b.f_lines.map fun _ => false)) rfl ?h ?g
  case g =>
    intro s e
    subst e
    rfl
  intro pre t post s e hs
  subst hs
  have ht : t ∈ enumL b.f_lines := by rw [e]; simp
  obtain ⟨m0, m1⟩ := hb t ht
  have hpre : pre.length ≤ 100 := by rw [e] at he; simp at he; omega
  have hbp : ∀ t ∈ pre, 0 ≤ t.x1.f_many ∧ t.x1.f_many ≤ 1000 := fun t ht => hb t (by rw [e]; exact List.mem_append_left _ ht)
  have b1 := flat_len (as := pre) (g := fun t => List.replicate t.x1.f_many.toNat t.x0) (n := 1000) fun t ht => by rw [List.length_replicate]; have := hbp t ht; omega
  have b2 := flat_len (as := pre) (g := fun t => List.replicate t.x1.f_many.toNat (pp t.x1 b.f_member)) (n := 1000) fun t ht => by rw [List.length_replicate]; have := hbp t ht; omega
  dsimp only
  rw [rng1O_ok (by omega) (by omega), bindP, flat_snoc, flat_snoc]
  generalize pre.flatMap (fun t => List.replicate t.x1.f_many.toNat t.x0) = os at b1
  generalize pre.flatMap (fun t => List.replicate t.x1.f_many.toNat (pp t.x1 b.f_member)) = ps at b2
  refine ⟨_, ?_, rfl⟩
  refine loopN_eq (fun done s => s = (os ++ List.replicate done.length t.x0, ps ++ List.replicate done.length (pp t.x1 b.f_member), b.f_carriage, b.f_lines.map fun _ => false)) (by simp) ?h2 ?g2
  case g2 =>
    intro s e
    subst e
    rw [rng_len]
  intro done j post2 s e2 hs
  subst hs
  obtain ⟨hj, hlt⟩ := rng_at e2
  dsimp only
  rw [appO_ok (by rw [List.length_append, List.length_replicate]; omega), bindP, piece_ok, bindP, appO_ok (by rw [List.length_append, List.length_replicate]; omega), bindP]
  refine ⟨_, rfl, ?_⟩
  rw [List.length_append, List.length_singleton, rep_snoc, rep_snoc, List.append_assoc, List.append_assoc]
end Law
namespace Law
variable [T.TabsC]
open PySem T L2
/-! what is taken of each stays under it -/
structure Under (w pr : List Int) : Prop where
  len : w.length = pr.length
  at_ : ∀ i : Nat, 0 ≤ w.getD i 0 ∧ w.getD i 0 ≤ pr.getD i 0
theorem under_cons {a b : Int} {w pr : List Int} (h0 : 0 ≤ a) (h1 : a ≤ b) (h : Under w pr) : Under (a :: w) (b :: pr) := ⟨by rw [List.length_cons, List.length_cons, h.len], fun i => by
  cases i with
  | zero => exact ⟨h0, h1⟩
  | succ i => simpa using h.at_ i⟩
theorem ediv_step {cut W acc w : Int} (hc : 0 ≤ cut) (hw : cut ≤ W) (h : 0 ≤ w) : 0 ≤ cut * (acc + w) / W - cut * acc / W ∧ cut * (acc + w) / W - cut * acc / W ≤ w := by
  by_cases hz : W = 0
  · subst hz
    rw [Int.ediv_zero, Int.ediv_zero]; omega
  have hW : 0 < W := by omega
  have h1 : cut * acc ≤ cut * (acc + w) := Int.mul_le_mul_of_nonneg_left (by omega) hc
  have h2 : cut * (acc + w) ≤ cut * acc + W * w := by
    rw [Int.mul_add]
    have := Int.mul_le_mul_of_nonneg_right hw h
    omega
  have h3 := Int.ediv_le_ediv hW h1
  have h4 := Int.ediv_le_ediv hW h2
  rw [Int.add_mul_ediv_left _ _ hz] at h4
  omega
theorem parts_under {cut W : Int} (hc : 0 ≤ cut) (hw : cut ≤ W) : ∀ (acc : Int) (ws : List Int), (∀ w ∈ ws, 0 ≤ w) → Under (parts cut W acc ws) ws
  | _, [], _ => ⟨rfl, fun i => by show 0 ≤ ([] : List Int).getD i 0 ∧ ([] : List Int).getD i 0 ≤ ([] : List Int).getD i 0; simp⟩
  | acc, w :: ws, h => by
    have := ediv_step (acc := acc) hc hw (h w List.mem_cons_self)
    exact under_cons this.1 this.2 (parts_under hc hw (acc + w) ws fun v hv => h v (List.mem_cons_of_mem _ hv))
theorem getD_mem {xs : List Int} (h : ∀ x ∈ xs, 0 ≤ x ∧ x ≤ 1000000000000) (i : Nat) : 0 ≤ xs.getD i 0 ∧ xs.getD i 0 ≤ 1000000000000 := by
  rw [List.getD_eq_getElem?_getD]
  cases q : xs[i]? with
  | none => exact ⟨Int.le_refl _, by decide⟩
  | some v => exact h v (List.mem_of_getElem? q)
theorem under_set {w pr : List Int} (u : Under w pr) {i : Int} {x : Int} (h2 : 0 ≤ x) (h3 : x ≤ pr.getD i.toNat 0) : Under (w.set i.toNat x) pr := ⟨by rw [List.length_set, u.len], fun j => by
  have := u.at_ j
  rw [List.getD_eq_getElem?_getD, List.getElem?_set] at *
  by_cases hj : i.toNat = j
  · rw [if_pos hj]
    by_cases hl : i.toNat < w.length
    · rw [if_pos (by omega)]
      subst hj; exact ⟨h2, h3⟩
    · rw [if_neg (by omega)]
      rw [List.getElem?_eq_none (by omega)] at this
      exact this
  · rw [if_neg hj]; exact this⟩
theorem under_rep {pr : List Int} (h : ∀ p ∈ pr, 0 ≤ p ∧ p ≤ 1000000000000) : Under (List.replicate pr.length 0) pr := ⟨List.length_replicate, fun i => by
  have := getD_mem h i
  have e : (List.replicate pr.length (0 : Int)).getD i 0 = 0 := by
    rw [List.getD_eq_getElem?_getD, List.getElem?_replicate]
    split <;> rfl
  rw [e]; omega⟩
theorem under_mem {w pr : List Int} (u : Under w pr) (h : ∀ p ∈ pr, 0 ≤ p ∧ p ≤ 1000000000000) : ∀ p ∈ w, 0 ≤ p ∧ p ≤ 1000000000000 := fun p hp => by
  obtain ⟨i, hi⟩ := List.getElem?_of_mem hp
  have h1 := u.at_ i
  have h2 := getD_mem h i
  have e : w.getD i 0 = p := by rw [List.getD_eq_getElem?_getD, hi]; rfl
  rw [e] at h1
  omega
theorem under_trans {a b c : List Int} (u : Under a b) (v : Under b c) : Under a c := ⟨u.len.trans v.len, fun i => ⟨(u.at_ i).1, Int.le_trans (u.at_ i).2 (v.at_ i).2⟩⟩
theorem set_loop {pr : List Int} {zs : List (T2 Int Int)} (h : ∀ t ∈ zs, 0 ≤ t.x0 ∧ t.x0 < pr.length ∧ 0 ≤ t.x1 ∧ t.x1 ≤ pr.getD t.x0.toNat 0) {w : List Int} (u : Under w pr) :
    ∃ w', loopN (fun (z : List Int) (it : T2 Int Int) => (setO z it.x0 it.x1 >>= fun x => some x)) zs w = some w' ∧ Under w' pr := by
  refine loopN_ind (fun _ s => Under s pr) u fun pre t post s e hs => ?_
  obtain ⟨h1, h2, h3, h4⟩ := h t (by rw [e]; simp)
  rw [setO_ok h1 (by rw [hs.len]; exact h2)]
  exact ⟨_, rfl, under_set hs h3 h4⟩
/-- the values at places -/
def vals (pr : List Int) (g : List Int) : List Int := g.map fun i => pr.getD i.toNat 0
def InR (g : List Int) (n : Nat) : Prop := ∀ i ∈ g, 0 ≤ i ∧ i < n
theorem at_getD {pr : List Int} {i : Int} (h : 0 ≤ i) (h2 : i < pr.length) : atO pr i = some (pr.getD i.toNat 0) := by
  rw [atO_get h h2, List.getD_eq_getElem?_getD, List.getElem?_eq_getElem (by omega)]; rfl
theorem vals_ok {pr g : List Int} (h : InR g pr.length) : lcM (fun i => atO pr i) g = some (vals pr g) := lcM_ok fun i hi => at_getD (h i hi).1 (h i hi).2
theorem vals_len (pr g : List Int) : (vals pr g).length = g.length := List.length_map _
theorem vals_mem {pr g : List Int} (h : ∀ p ∈ pr, 0 ≤ p ∧ p ≤ 1000000000000) : ∀ p ∈ vals pr g, 0 ≤ p ∧ p ≤ 1000000000000 := fun p hp => by
  obtain ⟨i, _, rfl⟩ := List.mem_map.mp hp
  exact getD_mem h _
theorem zip_ok {pr g w : List Int} (h : InR g pr.length) (u : Under w (vals pr g)) : ∀ t ∈ zipL g w, 0 ≤ t.x0 ∧ t.x0 < pr.length ∧ 0 ≤ t.x1 ∧ t.x1 ≤ pr.getD t.x0.toNat 0 := fun t ht => by
  obtain ⟨i, hi⟩ := List.getElem?_of_mem ht
  obtain ⟨a, b, e1, e2, rfl⟩ := zip_get hi
  have ha := h a (List.mem_of_getElem? e1)
  have := u.at_ i
  rw [List.getD_eq_getElem?_getD, e2, List.getD_eq_getElem?_getD] at this
  unfold vals at this
  rw [List.getElem?_map, e1] at this
  exact ⟨ha.1, ha.2, this.1, this.2⟩
structure PrOk (pr : List Int) : Prop where
  len : pr.length ≤ 60
  p : ∀ p ∈ pr, 0 ≤ p ∧ p ≤ 1000000000000
theorem PrOk.sum {pr : List Int} (h : PrOk pr) : 0 ≤ pr.sum ∧ pr.sum ≤ 60000000000000 := by
  refine ⟨sum_nonneg fun p hp => (h.p p hp).1, ?_⟩
  have := sum_le (ws := pr) (b := 1000000000000) fun p hp => (h.p p hp).2
  have := h.len
  omega
theorem dealt_under {cut : Int} {pr : List Int} (h : PrOk pr) (h0 : 0 ≤ cut) (h1 : cut ≤ pr.sum) : M.dealt cut pr = some (parts cut pr.sum 0 pr) ∧ Under (parts cut pr.sum 0 pr) pr := by
  have := h.sum
  have := h.len
  exact ⟨dealt_ok cut pr h0 (by omega) (by omega) (by omega) (by omega), parts_under h0 h1 0 pr fun p hp => (h.p p hp).1⟩
theorem PrOk.vals {pr g : List Int} (h : PrOk pr) (hg : g.length ≤ 60) : PrOk (vals pr g) := ⟨by rw [vals_len]; exact hg, vals_mem h.p⟩
theorem rep0_ok {pr : List Int} (h : PrOk pr) : repO ((0 : Int) :: ([] : List Int)) (pr.length : Int) = some (List.replicate pr.length 0) := by
  have := h.len
  rw [repO_one (by omega) (by omega)]; rfl
end Law
namespace Law
variable [T.TabsC]
open PySem T L2
structure LineOk (K : Int) (l : LineD) : Prop where
  k0 : 0 ≤ l.f_kind
  k1 : l.f_kind < K
  p0 : 0 ≤ l.f_price
  p1 : l.f_price ≤ 1000000000000
  s0 : ∀ e, l.f_special = some e → 0 ≤ e ∧ e ≤ 1000000000000
structure BkOk (K : Int) (b : BasketD) : Prop where
  len : b.f_lines.length ≤ 12
  l : ∀ l ∈ b.f_lines, LineOk K l
  m : ∀ l ∈ b.f_lines, 0 ≤ l.f_many ∧ l.f_many ≤ 20
  own : (ownersOf b.f_lines).length ≤ 60
  c0 : 0 ≤ b.f_carriage
  c1 : b.f_carriage ≤ 1000000000000
/-! standings -/
structure StOk (b : BasketD) (st : StandingD) : Prop where
  ow : st.f_owners = ownersOf b.f_lines
  pl : st.f_prices.length = st.f_owners.length
  p : ∀ p ∈ st.f_prices, 0 ≤ p ∧ p ≤ 1000000000000
  ml : st.f_marked.length = b.f_lines.length
  c0 : 0 ≤ st.f_carriage
  c1 : st.f_carriage ≤ 1000000000000
theorem owners_in {ls : List LineD} : ∀ o ∈ ownersOf ls, 0 ≤ o ∧ o < ls.length := fun o ho => by
  unfold ownersOf at ho
  obtain ⟨t, ht, h⟩ := List.mem_flatMap.mp ho
  obtain ⟨i, hi⟩ := List.getElem?_of_mem ht
  obtain ⟨a, e1, rfl⟩ := enum_get hi
  have hl := (List.getElem?_eq_some_iff.mp e1).1
  rw [List.eq_of_mem_replicate h]
  show 0 ≤ (i : Int) ∧ (i : Int) < ls.length
  omega
theorem prices_len (ls : List LineD) (m : Bool) : (pricesOf ls m).length = (ownersOf ls).length := by
  unfold pricesOf ownersOf
  rw [List.length_flatMap, List.length_flatMap]
  congr 1
  refine List.map_congr_left fun t _ => ?_
  rw [List.length_replicate, List.length_replicate]
theorem pp_ok {K : Int} {l : LineD} (h : LineOk K l) (m : Bool) : 0 ≤ pp l m ∧ pp l m ≤ 1000000000000 := by
  unfold pp
  split
  · rename_i hc
    cases q : l.f_special with
    | none => exact ⟨Int.le_refl _, by decide⟩
    | some e => exact h.s0 e q
  · exact ⟨h.p0, h.p1⟩
theorem stand0_ok {K : Int} {b : BasketD} (h : BkOk K b) : ∃ st, M.Standing_init b = some st ∧ StOk b st := by
  have hl := h.len
  refine ⟨_, stand_ok b (by omega) (fun l hl => by have := h.m l hl; omega), rfl, prices_len _ _, fun p hp => ?_, by simp, h.c0, h.c1⟩
  have hp' : p ∈ pricesOf b.f_lines b.f_member := hp
  unfold pricesOf at hp'
  obtain ⟨t, ht, h2⟩ := List.mem_flatMap.mp hp'
  rw [List.eq_of_mem_replicate h2]
  exact pp_ok (h.l _ (enum_mem ht)) _
theorem StOk.pr {K : Int} {b : BasketD} {st : StandingD} (s : StOk b st) (h : BkOk K b) : PrOk st.f_prices := ⟨by rw [s.pl, s.ow]; exact h.own, s.p⟩
theorem StOk.oin {b : BasketD} {st : StandingD} (s : StOk b st) : ∀ o ∈ st.f_owners, 0 ≤ o ∧ o < b.f_lines.length := by rw [s.ow]; exact owners_in
end Law
namespace Law
variable [T.TabsC]
open PySem T L2
theorem off_wanted {o : OffD} {pr ow : List Int} (h : PrOk pr) (h0 : 0 ≤ o.f_amount) : M.Off_wanted o pr ow = some (parts (min o.f_amount pr.sum) pr.sum 0 pr) ∧ Under (parts (min o.f_amount pr.sum) pr.sum 0 pr) pr := by
  unfold M.Off_wanted
  have := h.sum
  exact dealt_under h (by omega) (by omega)
end Law
namespace Law
variable [T.TabsC]
open PySem T L2
theorem share_cut {pr : List Int} {s : Int} (h : PrOk pr) (h0 : 0 ≤ s) (h1 : s ≤ 1000) : mulO pr.sum s = some (pr.sum * s) ∧ 0 ≤ pr.sum * s / 1000 ∧ pr.sum * s / 1000 ≤ pr.sum := by
  have := h.sum
  refine ⟨mulO_r (by omega) (by omega), Int.ediv_nonneg (Int.mul_nonneg this.1 h0) (by decide), ?_⟩
  have h2 := Int.mul_le_mul_of_nonneg_left h1 this.1
  have h3 := Int.ediv_le_ediv (c := 1000) (by decide) h2
  rw [Int.mul_ediv_cancel _ (by decide)] at h3
  exact h3
/-- the places of one line -/
def ofLine (ow : List Int) (n : Nat) (line : Int) : List Int := (rng 0 n).filter fun at_ => decide (ow.getD at_.toNat 0 = line)
theorem ofLine_in (ow : List Int) (n : Nat) (line : Int) : InR (ofLine ow n line) n := fun i hi => by
  have := rng_mem (List.mem_filter.mp hi).1
  omega
theorem ofLine_len (ow : List Int) (n : Nat) (line : Int) : (ofLine ow n line).length ≤ n := by
  have := List.length_filter_le (fun at_ => decide (ow.getD at_.toNat 0 = line)) (rng 0 n)
  rw [rng_len] at this
  exact this
theorem share_wanted {o : ShareD} {pr ow : List Int} (h : PrOk pr) (h0 : 0 ≤ o.f_share) (h1 : o.f_share ≤ 1000) (hl : ow.length = pr.length) : ∃ w, M.Share_wanted o pr ow = some w ∧ Under w pr := by
  unfold M.Share_wanted
  have hl2 := h.len
  by_cases hb : (!o.f_by_line) = true
  · rw [if_pos hb]
    obtain ⟨a, b, c⟩ := share_cut h h0 h1
    rw [a, bindP, bindP]
    obtain ⟨d, e⟩ := dealt_under h b c
    exact ⟨_, d, e⟩
  rw [if_neg hb, rep0_ok h, bindP]
  have es : sortSetO ow = some (sortS ow) := by
    unfold sortSetO
    rw [if_pos (decide_eq_true (by omega))]
  rw [es, bindP]
  refine loopN_step (fun _ s => Under s pr) (under_rep h.p) (fun pre line post s e hs => ?_) fun s hs => ⟨s, rfl, hs⟩
  rw [rng1O_ok (by omega) (by omega), bindP]
  have hn : ((pr.length : Int)).toNat = pr.length := by omega
  rw [hn, lcF_ok (u := fun at_ => decide (ow.getD at_.toNat 0 = line)) (g := fun i => i) (fun i hi => by
    have := rng_mem hi
    rw [at_getD (by omega) (by omega)]; rfl) (fun _ _ _ => rfl), bindP]
  have eid : ((rng 0 pr.length).filter fun at_ => decide (ow.getD at_.toNat 0 = line)).map (fun i => i) = ofLine ow pr.length line := List.map_id _
  rw [eid, vals_ok (ofLine_in _ _ _), bindP]
  have hlo := ofLine_len ow pr.length line
  have ho := h.vals (g := ofLine ow pr.length line) (by omega)
  obtain ⟨a, b, c⟩ := share_cut ho h0 h1
  obtain ⟨d, e2⟩ := dealt_under ho b c
  rw [a, bindP, bindP, d, bindP, bindP]
  obtain ⟨w', e3, u⟩ := set_loop (zip_ok (ofLine_in ow pr.length line) e2) hs
  rw [e3]
  exact ⟨w', rfl, u⟩
end Law
namespace Law
variable [T.TabsC]
open PySem T L2
/-! pieces a voucher is about -/
theorem loopC_eq {α γ ρ δ : Type} {f : γ → α → Option (Ctl γ γ ρ)} {as : List α} {s0 : γ} {g : Ctl γ Empty ρ → Option δ} {r : δ} (Pv : List α → γ → Prop) (h0 : Pv [] s0) (hs : ∀ pre a post s, as = pre ++ a :: post → Pv pre s → ∃ s', (f s a = some (.nx s') ∨ f s a = some (.ct s')) ∧ Pv (pre ++ [a]) s') (hg : ∀ s, Pv as s → g (.nx s) = some r) : (loopC f as s0 >>= g) = some r := by
  obtain ⟨s', e, p⟩ := loopC_ind Pv h0 hs
  rw [e]; exact hg s' p
def kindAt (ls : List LineD) (o : Int) : Int := (ls[o.toNat]?.map fun l => l.f_kind).getD 0
def okAt (ps : List (Option Int)) (ls : List LineD) (mk : List Bool) (kind : Option Int) (lone : Bool) (o : Int) : Bool :=
  (match kind with
    | none => true
    | some k => decide (k ∈ ups ps (kindAt ls o))) && !(lone && mk.getD o.toNat false)
def aboutS (ps : List (Option Int)) (ls : List LineD) (mk : List Bool) (kind : Option Int) (lone : Bool) (ow : List Int) : List Int := (rng 0 ow.length).filter fun i => okAt ps ls mk kind lone (ow.getD i.toNat 0)
theorem about_in {ps : List (Option Int)} {ls : List LineD} {mk : List Bool} {kind : Option Int} {lone : Bool} {ow : List Int} : InR (aboutS ps ls mk kind lone ow) ow.length := fun i hi => by
  have := rng_mem (List.mem_filter.mp hi).1
  omega
theorem about_len {ps : List (Option Int)} {ls : List LineD} {mk : List Bool} {kind : Option Int} {lone : Bool} {ow : List Int} : (aboutS ps ls mk kind lone ow).length ≤ ow.length := by
  have := List.length_filter_le (fun i : Int => okAt ps ls mk kind lone (ow.getD i.toNat 0)) (rng 0 ow.length)
  rw [rng_len] at this
  exact this
theorem enum_rng (ow : List Int) : enumL ow = (rng 0 ow.length).map fun i => T2.mk i (ow.getD i.toNat 0) := by
  refine List.ext_getElem? fun j => ?_
  rw [List.getElem?_map]
  by_cases hj : j < ow.length
  · rw [rng_get hj]
    unfold enumL
    rw [List.getElem?_map, List.getElem?_zipIdx, List.getElem?_eq_getElem hj]
    show some (T2.mk ((0 + j : Nat) : Int) ow[j]) = some (T2.mk ((0 : Int) + (j : Int)) (ow.getD ((0 : Int) + (j : Int)).toNat 0))
    have e : ((0 : Int) + (j : Int)).toNat = j := by omega
    rw [e, List.getD_eq_getElem?_getD, List.getElem?_eq_getElem hj]
    simp
  · rw [List.getElem?_eq_none (by rw [enum_len']; omega), List.getElem?_eq_none (by rw [rng_len]; omega)]; rfl
theorem kind_at {ls : List LineD} {o : Int} (h : 0 ≤ o) (h2 : o < ls.length) : ∃ l, atO ls o = some l ∧ l ∈ ls ∧ l.f_kind = kindAt ls o := by
  refine ⟨_, atO_get h h2, List.getElem_mem _, ?_⟩
  unfold kindAt
  rw [List.getElem?_eq_getElem (by omega)]; rfl
theorem mark_at {mk : List Bool} {o : Int} (h : 0 ≤ o) (h2 : o < mk.length) : atO mk o = some (mk.getD o.toNat false) := by
  rw [atO_get h h2, List.getD_eq_getElem?_getD, List.getElem?_eq_getElem (by omega)]; rfl
end Law
namespace Law
variable [T.TabsC]
open PySem T L2
section
variable {ps : List (Option Int)} {b : BasketD} {st : StandingD}
theorem about_ok (v : VoucherD) {mk : MarksD} (hm : v.f_marks = some mk) (w : Wf ps) (hps : ps.length ≤ 20) (hb : BkOk ps.length b) (hs : StOk b st) :
    M.about v ps b st = some (aboutS ps b.f_lines st.f_marked mk.f_kind mk.f_lone st.f_owners) := by
  unfold M.about
  rw [hm]
  obtain ⟨kd, nd, mo, me, on, lo⟩ := mk
  dsimp only
  have hol : st.f_owners.length ≤ 60 := by rw [hs.ow]; exact hb.own
  refine loopC_eq (fun pre z => z = (pre.filter fun t => okAt ps b.f_lines st.f_marked kd lo t.x1).map fun t => t.x0) rfl (fun pre t post z e hz => ?_) fun z hz => ?_
  · have ht : t ∈ enumL st.f_owners := by rw [e]; simp
    obtain ⟨o0, o1⟩ := hs.oin _ (enum_mem ht)
    obtain ⟨l, e1, hl, hk⟩ := kind_at o0 o1
    have lk := hb.l l hl
    have hml := hs.ml
    have hpl : pre.length ≤ 60 := by
      have : (enumL st.f_owners).length = pre.length + (post.length + 1) := by rw [e]; simp
      rw [enum_len'] at this
      omega
    have hzl : z.length ≤ 60 := by
      rw [hz, List.length_map]
      have := List.length_filter_le (fun t : T2 Int Int => okAt ps b.f_lines st.f_marked kd lo t.x1) pre
      omega
    have skip : okAt ps b.f_lines st.f_marked kd lo t.x1 = false → ((pre ++ [t]).filter fun t => okAt ps b.f_lines st.f_marked kd lo t.x1).map (fun t => t.x0) = z := fun h => by
      rw [List.filter_append, List.filter_cons, if_neg (by rw [h]; exact Bool.false_ne_true), List.filter_nil, List.append_nil, hz]
    have take : okAt ps b.f_lines st.f_marked kd lo t.x1 = true → ((pre ++ [t]).filter fun t => okAt ps b.f_lines st.f_marked kd lo t.x1).map (fun t => t.x0) = z ++ [t.x0] := fun h => by
      rw [List.filter_append, List.filter_cons, if_pos h, List.filter_nil, List.map_append, hz]; rfl
    simp only [bindP, e1]
    have mid : ∀ c : Bool, (c = true → okAt ps b.f_lines st.f_marked kd lo t.x1 = false) → (c = false → okAt ps b.f_lines st.f_marked kd lo t.x1 = !(lo && st.f_marked.getD t.x1.toNat false)) →
        ∃ s', ((if c = true then some (Ctl.ct z) else ((if lo = true then (atO st.f_marked t.x1) else some false) >>= fun v19 => (if v19 = true then some (Ctl.ct z) else (appO z t.x0 >>= fun x_found => some (Ctl.nx x_found))))) = (some (Ctl.nx s') : Option (Ctl (List Int) (List Int) (List Int))) ∨
          (if c = true then some (Ctl.ct z) else ((if lo = true then (atO st.f_marked t.x1) else some false) >>= fun v19 => (if v19 = true then some (Ctl.ct z) else (appO z t.x0 >>= fun x_found => some (Ctl.nx x_found))))) = (some (Ctl.ct s') : Option (Ctl (List Int) (List Int) (List Int)))) ∧ s' = ((pre ++ [t]).filter fun t => okAt ps b.f_lines st.f_marked kd lo t.x1).map (fun t => t.x0) := fun c h1 h2 => by
      cases c with
      | true => exact ⟨z, .inr (if_pos rfl), (skip (h1 rfl)).symm⟩
      | false =>
        rw [if_neg Bool.false_ne_true, mark_at o0 (by omega)]
        have h2 := h2 rfl
        cases lo with
        | false =>
          rw [if_neg Bool.false_ne_true, bindP, if_neg Bool.false_ne_true, appO_ok (by omega), bindP]
          exact ⟨_, .inl rfl, (take h2).symm⟩
        | true =>
          rw [if_pos rfl, bindP]
          rw [Bool.true_and] at h2
          cases q2 : st.f_marked.getD t.x1.toNat false with
          | true =>
            rw [q2] at h2
            rw [if_pos rfl]
            exact ⟨z, .inr rfl, (skip h2).symm⟩
          | false =>
            rw [q2] at h2
            rw [if_neg Bool.false_ne_true, appO_ok (by omega), bindP]
            exact ⟨_, .inl rfl, (take h2).symm⟩
    cases kd with
    | none => exact mid false (fun z => by cases z) (fun _ => by unfold okAt; exact Bool.true_and _)
    | some k =>
      rw [show (some k).isSome = true from rfl, if_pos rfl]
      rw [under_ok w (other := k) lk.k0 lk.k1 (by omega), bindP]
      exact mid (!decide (k ∈ ups ps l.f_kind)) (fun z => by unfold okAt; rw [hk.symm]; simp at z; simp [z]) (fun z => by unfold okAt; rw [hk.symm]; simp at z; simp [z])
  · subst hz
    show some _ = some _
    congr 1
    unfold aboutS
    rw [enum_rng, List.filter_map, List.map_map]
    exact List.map_id _
end
end Law
namespace Law
variable [T.TabsC]
open PySem T L2
/-! what is taken off, the standing behind -/
structure MkOk (mk : MarksD) : Prop where
  most : ∀ m, mk.f_most = some m → 0 ≤ m ∧ m ≤ 1000000000000
/-- the end of cuts: the wanted cut is known -/
theorem cuts_tail {mks : Option MarksD} {mk : MarksD} (hm : mks = some mk) (hk : MkOk mk) {pr pieces w : List Int} {fee car : Int} (h : PrOk pr) (hi : InR pieces pr.length) (u : Under w (vals pr pieces)) (hl : pieces.length ≤ 60) (f0 : 0 ≤ fee) (f1 : fee ≤ car) :
    ∃ told fee', ((mks >>= fun v7 => some (v7.f_most)) >>= fun x_most => ((if x_most.isSome = true then (x_most >>= fun v9 => some (decide ((w.sum + fee) > v9))) else some false) >>= fun v26 => ((if v26 = true then (((x_most >>= fun v20 => some (min v20 w.sum)) >>= fun v21 => M.dealt v21 w) >>= fun x_wanted => ((x_most >>= fun v25 => some (min v25 fee)) >>= fun x_fee => some (x_wanted, x_fee))) else some (w, fee)) >>= (fun (z10 : ((List Int) × Int)) => ((repO ((0 : Int) :: ([] : (List Int))) (pr.length : Int)) >>= fun x_told => (loopN (fun (z13 : (List Int)) (it14 : (T2 Int Int)) => (setO z13 it14.x0 it14.x1 >>= fun x_told => some x_told)) (zipL pieces z10.1) x_told >>= fun z15 => some (T2.mk z15 z10.2))))))) = some (T2.mk told fee') ∧ Under told pr ∧ 0 ≤ fee' ∧ fee' ≤ car := by
  have hv := h.vals hl
  have hw : PrOk w := ⟨by rw [u.len, vals_len]; exact hl, under_mem u hv.p⟩
  have fin : ∀ (w' : List Int) (fee' : Int), Under w' (vals pr pieces) → 0 ≤ fee' → fee' ≤ car → ∃ told fee'', ((some (w', fee') : Option ((List Int) × Int)) >>= (fun (z10 : ((List Int) × Int)) => ((repO ((0 : Int) :: ([] : (List Int))) (pr.length : Int)) >>= fun x_told => (loopN (fun (z13 : (List Int)) (it14 : (T2 Int Int)) => (setO z13 it14.x0 it14.x1 >>= fun x_told => some x_told)) (zipL pieces z10.1) x_told >>= fun z15 => some (T2.mk z15 z10.2))))) = some (T2.mk told fee'') ∧ Under told pr ∧ 0 ≤ fee'' ∧ fee'' ≤ car := fun w' fee' u' g0 g1 => by
    rw [bindP, rep0_ok h, bindP]
    obtain ⟨t, e, ut⟩ := set_loop (zip_ok hi u') (under_rep h.p)
    rw [e, bindP]
    exact ⟨t, fee', rfl, ut, g0, g1⟩
  rw [hm]
  simp only [bindP]
  cases q : mk.f_most with
  | none =>
    rw [if_neg (by simp), bindP, if_neg Bool.false_ne_true]
    exact fin w fee u f0 f1
  | some m =>
    obtain ⟨m0, m1⟩ := hk.most m q
    rw [if_pos (by rfl)]
    simp only [bindP]
    have hs := hw.sum
    obtain ⟨d, u2⟩ := dealt_under (cut := min m w.sum) hw (by omega) (by omega)
    split
    · rw [d, bindP]
      exact fin _ _ (under_trans u2 u) (by omega) (by omega)
    · exact fin w fee u f0 f1
theorem enum_lt {as : List Int} {t : T2 Int Int} (h : t ∈ enumL as) : 0 ≤ t.x0 ∧ t.x0 < as.length := by
  obtain ⟨i, hi⟩ := List.getElem?_of_mem h
  obtain ⟨a, e1, rfl⟩ := enum_get hi
  have hl := (List.getElem?_eq_some_iff.mp e1).1
  show 0 ≤ (i : Int) ∧ (i : Int) < as.length
  omega
end Law
namespace Law
variable [T.TabsC]
open PySem T L2
section
variable {ps : List (Option Int)} {b : BasketD} {st : StandingD}
/-- cuts has its answer -/
def CutsOk (v : VoucherD) (ps : List (Option Int)) (b : BasketD) (st : StandingD) : Prop := ∃ told fee, M.cuts v ps b st = some (T2.mk told fee) ∧ Under told st.f_prices ∧ 0 ≤ fee ∧ fee ≤ st.f_carriage
theorem after_ok (v : VoucherD) {mk : MarksD} (hm : v.f_marks = some mk) (hb : BkOk ps.length b) (hs : StOk b st) (hc : CutsOk v ps b st) : ∃ st', M.after v ps b st = some st' ∧ StOk b st' := by
  obtain ⟨told, fee, e, u, f0, f1⟩ := hc
  unfold M.after
  rw [e, bindP]
  obtain ⟨s0, e0, h0⟩ := stand0_ok hb
  rw [e0, bindP, hm]
  dsimp only
  rw [bindP, bindP]
  have hpl : ((zipL st.f_prices told).map fun it : T2 Int Int => it.x0 - it.x1).length = s0.f_owners.length := by
    rw [List.length_map, zip_len, u.len, Nat.min_self, hs.pl, hs.ow, h0.ow]
  have hpp : ∀ p ∈ (zipL st.f_prices told).map fun it : T2 Int Int => it.x0 - it.x1, 0 ≤ p ∧ p ≤ 1000000000000 := fun p hp => by
    obtain ⟨t, ht, rfl⟩ := List.mem_map.mp hp
    obtain ⟨i, hi⟩ := List.getElem?_of_mem ht
    obtain ⟨a, c, e1, e2, rfl⟩ := zip_get hi
    have h1 := hs.p a (List.mem_of_getElem? e1)
    have h2 := u.at_ i
    rw [List.getD_eq_getElem?_getD, e2, List.getD_eq_getElem?_getD, e1] at h2
    have h3 : 0 ≤ c ∧ c ≤ a := h2
    show 0 ≤ a - c ∧ a - c ≤ 1000000000000
    omega
  have c0 := hs.c0
  have c1 := hs.c1
  have fin : ∀ mk : List Bool, mk.length = b.f_lines.length → StOk b ⟨s0.f_owners, (zipL st.f_prices told).map fun it : T2 Int Int => it.x0 - it.x1, st.f_carriage - fee, mk⟩ := fun mk hmk => ⟨h0.ow, hpl, hpp, hmk, by show 0 ≤ st.f_carriage - fee; omega, by show st.f_carriage - fee ≤ 1000000000000; omega⟩
  by_cases hl : mk.f_lone = true
  · rw [if_pos hl]
    obtain ⟨s', e', hs'⟩ := loopN_ind (as := enumL told) (f := fun (z8 : ((List Int) × (List Int) × Int × (List Bool))) (it9 : (T2 Int Int)) => ((if (decide (it9.x1 > (0 : Int))) = true then ((atO st.f_owners it9.x0) >>= fun v11 => (setO z8.2.2.2 v11 true >>= fun x_left_marked => some (z8.1, z8.2.1, z8.2.2.1, x_left_marked))) else some (z8.1, z8.2.1, z8.2.2.1, z8.2.2.2)) >>= (fun (z10 : ((List Int) × (List Int) × Int × (List Bool))) => some (z10.1, z10.2.1, z10.2.2.1, z10.2.2.2)))) (s0 := (s0.f_owners, (zipL st.f_prices told).map fun it : T2 Int Int => it.x0 - it.x1, st.f_carriage - fee, st.f_marked))
      (fun _ z => z.1 = s0.f_owners ∧ z.2.1 = ((zipL st.f_prices told).map fun it : T2 Int Int => it.x0 - it.x1) ∧ z.2.2.1 = st.f_carriage - fee ∧ z.2.2.2.length = b.f_lines.length) ⟨rfl, rfl, rfl, hs.ml⟩ (fun pre t post z e ⟨z1, z2, z3, z4⟩ => by
        have ht := enum_lt (as := told) (t := t) (by rw [e]; simp)
        rw [u.len, hs.pl] at ht
        have hmem : st.f_owners.getD t.x0.toNat 0 ∈ st.f_owners := by
          rw [List.getD_eq_getElem?_getD, List.getElem?_eq_getElem (by omega)]
          exact List.getElem_mem _
        have ho := hs.oin _ hmem
        by_cases hp : decide (t.x1 > 0) = true
        · rw [if_pos hp, at_getD ht.1 ht.2, bindP, setO_ok ho.1 (by rw [z4]; exact ho.2), bindP, bindP]
          exact ⟨_, rfl, z1, z2, z3, by rw [List.length_set]; exact z4⟩
        · rw [if_neg hp, bindP]
          exact ⟨_, rfl, z1, z2, z3, z4⟩)
    rw [e', bindP]
    obtain ⟨z1, z2, z3, z4⟩ := hs'
    refine ⟨_, rfl, ?_⟩
    have := fin s'.2.2.2 z4
    rw [← z1, ← z2, ← z3] at this
    exact this
  · rw [if_neg hl]
    exact ⟨_, rfl, fin _ hs.ml⟩
end
end Law
namespace Law
variable [T.TabsC]
open PySem T L2
/-- a voucher of any kind, fit to use -/
def VFit : VoucherD → Prop
  | .c_Off o => 0 ≤ o.f_amount
  | .c_Share o => 0 ≤ o.f_share ∧ o.f_share ≤ 1000
  | .c_Carriage _ => True
end Law
namespace Law
variable [T.TabsC]
open PySem T L2
theorem cutsV_ok (v : VoucherD) {ps : List (Option Int)} {b : BasketD} {st : StandingD} {mk : MarksD} (hm : v.f_marks = some mk) (hk : MkOk mk) (hf : VFit v) (w : Wf ps) (hps : ps.length ≤ 20) (hb : BkOk ps.length b) (hs : StOk b st) : CutsOk v ps b st := by
  unfold CutsOk M.cuts
  rw [about_ok v hm w hps hb hs, bindP]
  have hin : InR (aboutS ps b.f_lines st.f_marked mk.f_kind mk.f_lone st.f_owners) st.f_owners.length := about_in
  have hln : (aboutS ps b.f_lines st.f_marked mk.f_kind mk.f_lone st.f_owners).length ≤ st.f_owners.length := about_len
  generalize aboutS ps b.f_lines st.f_marked mk.f_kind mk.f_lone st.f_owners = pieces at hin hln
  have hol : st.f_owners.length ≤ 60 := by rw [hs.ow]; exact hb.own
  have hpr := hs.pr hb
  have hin2 : InR pieces st.f_prices.length := by rw [hs.pl]; exact hin
  have hvp := hpr.vals (g := pieces) (by omega)
  have c0 := hs.c0
  rw [vals_ok hin2, bindP, vals_ok hin, bindP]
  cases v with
  | c_Off o =>
    obtain ⟨e, u⟩ := off_wanted (o := o) (ow := vals st.f_owners pieces) hvp hf
    dsimp only
    rw [e, bindP]
    unfold M.Voucher_wanted_carriage
    exact cuts_tail hm hk hpr hin2 u (by omega) (Int.le_refl _) c0
  | c_Share o =>
    obtain ⟨w', e, u⟩ := share_wanted (o := o) (ow := vals st.f_owners pieces) hvp hf.1 hf.2 (by rw [vals_len, vals_len])
    dsimp only
    rw [e, bindP]
    unfold M.Voucher_wanted_carriage_1
    exact cuts_tail hm hk hpr hin2 u (by omega) (Int.le_refl _) c0
  | c_Carriage o =>
    have e : M.Voucher_wanted o (vals st.f_prices pieces) (vals st.f_owners pieces) = some (List.replicate (vals st.f_prices pieces).length 0) := by
      unfold M.Voucher_wanted
      exact rep0_ok hvp
    dsimp only
    rw [e, bindP]
    unfold M.Carriage_wanted_carriage
    exact cuts_tail hm hk hpr hin2 (under_rep hvp.p) (by omega) c0 (Int.le_refl _)
end Law
namespace Law
variable [T.TabsC]
open PySem T L2
def hindS (mk : MarksD) (b : BasketD) (n : Int) (worth : Int) : Option Str :=
  if (mk.f_member && !b.f_member) = true then some "member" else if (decide (n = 0)) = true then some "nothing" else if (decide (worth < mk.f_needs)) = true then some "needs" else none
theorem hind_ok (v : VoucherD) {mk : MarksD} {ps : List (Option Int)} {b : BasketD} {st : StandingD} (hm : v.f_marks = some mk) (w : Wf ps) (hps : ps.length ≤ 20) (hb : BkOk ps.length b) (hs : StOk b st) :
    M.hindrance v ps b st = some (hindS mk b (aboutS ps b.f_lines st.f_marked mk.f_kind mk.f_lone st.f_owners).length (vals st.f_prices (aboutS ps b.f_lines st.f_marked mk.f_kind mk.f_lone st.f_owners)).sum) := by
  unfold M.hindrance hindS
  rw [about_ok v hm w hps hb hs, hm, bindP, bindP]
  have hin : InR (aboutS ps b.f_lines st.f_marked mk.f_kind mk.f_lone st.f_owners) st.f_prices.length := by rw [hs.pl]; exact about_in
  generalize aboutS ps b.f_lines st.f_marked mk.f_kind mk.f_lone st.f_owners = pieces at hin
  have e : (if mk.f_member = true then some (!b.f_member) else some false) = some (mk.f_member && !b.f_member) := by cases mk.f_member <;> rfl
  rw [e, bindP]
  by_cases h1 : (mk.f_member && !b.f_member) = true
  · rw [if_pos h1, if_pos h1]
  rw [if_neg h1, if_neg h1, bindP]
  by_cases h2 : decide ((pieces.length : Int) = 0) = true
  · rw [if_pos h2, if_pos h2]
  rw [if_neg h2, if_neg h2, vals_ok hin, bindP, bindP, bindP, bindP, bindP]
  by_cases h3 : decide ((vals st.f_prices pieces).sum < mk.f_needs) = true
  · rw [if_pos h3, if_pos h3]
  · rw [if_neg h3, if_neg h3]
end Law
namespace Law
variable [T.TabsC]
open PySem T L2
/-! the standing behind, exactly -/
def markStep (told ow : List Int) (m : List Bool) (k : Int) : List Bool := if decide (told.getD k.toNat 0 > 0) = true then m.set (ow.getD k.toNat 0).toNat true else m
def markS (lone : Bool) (told ow : List Int) (m : List Bool) : List Bool := if lone = true then (rng 0 told.length).foldl (markStep told ow) m else m
def leftP (pr told : List Int) : List Int := (rng 0 told.length).map fun k => pr.getD k.toNat 0 - told.getD k.toNat 0
theorem markStep_len (told ow : List Int) (m : List Bool) (k : Int) : (markStep told ow m k).length = m.length := by
  unfold markStep
  split
  · exact List.length_set
  · rfl
theorem leftP_zip {pr told : List Int} (h : told.length = pr.length) : (zipL pr told).map (fun it : T2 Int Int => it.x0 - it.x1) = leftP pr told := by
  unfold leftP
  refine List.ext_getElem? fun j => ?_
  rw [List.getElem?_map, List.getElem?_map]
  by_cases hj : j < told.length
  · rw [rng_get hj]
    unfold zipL
    rw [List.getElem?_map]
    have : (pr.zip told)[j]? = some (pr[j]'(by omega), told[j]) := by rw [List.getElem?_zip_eq_some]; exact ⟨List.getElem?_eq_getElem _, List.getElem?_eq_getElem _⟩
    rw [this]
    show some (pr[j]'(by omega) - told[j]) = some (pr.getD ((0 : Int) + (j : Int)).toNat 0 - told.getD ((0 : Int) + (j : Int)).toNat 0)
    rw [show ((0 : Int) + (j : Int)).toNat = j by omega, List.getD_eq_getElem?_getD, List.getD_eq_getElem?_getD, List.getElem?_eq_getElem hj, List.getElem?_eq_getElem (show j < pr.length by omega)]; rfl
  · rw [List.getElem?_eq_none (by rw [zip_len]; omega), List.getElem?_eq_none (by rw [rng_len]; omega)]; rfl
section
variable {ps : List (Option Int)} {b : BasketD} {st : StandingD}
theorem owner_at (hs : StOk b st) {k : Int} (h : 0 ≤ k) (h2 : k < st.f_owners.length) : 0 ≤ st.f_owners.getD k.toNat 0 ∧ st.f_owners.getD k.toNat 0 < b.f_lines.length := by
  refine hs.oin _ ?_
  rw [List.getD_eq_getElem?_getD, List.getElem?_eq_getElem (by omega)]
  exact List.getElem_mem _
end
end Law
namespace Law
variable [T.TabsC]
open PySem T L2
section
variable {ps : List (Option Int)} {b : BasketD} {st : StandingD}
theorem after_eq (v : VoucherD) {mk : MarksD} (hm : v.f_marks = some mk) (hb : BkOk ps.length b) (hs : StOk b st) {told : List Int} {fee : Int} (e : M.cuts v ps b st = some (T2.mk told fee)) (ht : told.length = st.f_prices.length) :
    M.after v ps b st = some ⟨st.f_owners, leftP st.f_prices told, st.f_carriage - fee, markS mk.f_lone told st.f_owners st.f_marked⟩ := by
  unfold M.after
  rw [e, bindP]
  obtain ⟨s0, e0, h0⟩ := stand0_ok hb
  rw [e0, bindP, hm]
  dsimp only
  rw [bindP, bindP, leftP_zip ht]
  have eo : s0.f_owners = st.f_owners := h0.ow.trans hs.ow.symm
  rw [eo]
  unfold markS
  by_cases hl : mk.f_lone = true
  · rw [if_pos hl, if_pos hl]
    obtain ⟨s', e', z1, z2, z3, z4⟩ := loopN_ind (as := enumL told) (f := fun (z8 : ((List Int) × (List Int) × Int × (List Bool))) (it9 : (T2 Int Int)) => ((if (decide (it9.x1 > (0 : Int))) = true then ((atO st.f_owners it9.x0) >>= fun v11 => (setO z8.2.2.2 v11 true >>= fun x_left_marked => some (z8.1, z8.2.1, z8.2.2.1, x_left_marked))) else some (z8.1, z8.2.1, z8.2.2.1, z8.2.2.2)) >>= (fun (z10 : ((List Int) × (List Int) × Int × (List Bool))) => some (z10.1, z10.2.1, z10.2.2.1, z10.2.2.2)))) (s0 := (st.f_owners, leftP st.f_prices told, st.f_carriage - fee, st.f_marked))
      (fun pre z => z.1 = st.f_owners ∧ z.2.1 = leftP st.f_prices told ∧ z.2.2.1 = st.f_carriage - fee ∧ z.2.2.2 = (pre.map fun t => t.x0).foldl (markStep told st.f_owners) st.f_marked ∧ z.2.2.2.length = b.f_lines.length) ⟨rfl, rfl, rfl, rfl, hs.ml⟩ (fun pre t post z e ⟨z1, z2, z3, z4, z5⟩ => by
        have htm : t ∈ enumL told := by rw [e]; simp
        have hlt := enum_lt (as := told) (t := t) htm
        have hx : told.getD t.x0.toNat 0 = t.x1 := by
          obtain ⟨i, hi⟩ := List.getElem?_of_mem htm
          obtain ⟨a, e1, rfl⟩ := enum_get hi
          show told.getD ((i : Int)).toNat 0 = a
          rw [show ((i : Int)).toNat = i by omega, List.getD_eq_getElem?_getD, e1]; rfl
        rw [ht, hs.pl] at hlt
        have ho := owner_at hs hlt.1 hlt.2
        have st : ∀ m : List Bool, m = markStep told st.f_owners z.2.2.2 t.x0 → m = ((pre ++ [t]).map fun t => t.x0).foldl (markStep told st.f_owners) st.f_marked ∧ m.length = b.f_lines.length := fun m hm => by
          refine ⟨?_, by rw [hm, markStep_len]; exact z5⟩
          rw [List.map_append, List.foldl_append, ← z4]; exact hm
        by_cases hp : decide (t.x1 > 0) = true
        · rw [if_pos hp, at_getD hlt.1 hlt.2, bindP, setO_ok ho.1 (by rw [z5]; exact ho.2), bindP, bindP]
          exact ⟨_, rfl, z1, z2, z3, st _ (by unfold markStep; rw [hx, if_pos hp])⟩
        · rw [if_neg hp, bindP]
          exact ⟨_, rfl, z1, z2, z3, st _ (by unfold markStep; rw [hx, if_neg hp])⟩)
    rw [e', bindP, bindP, z1, z2, z3, z4.1]
    congr 2
    rw [enum_rng, List.map_map]
    show ((rng 0 told.length).map fun i => i).foldl _ _ = _
    rw [List.map_id']
  · rw [if_neg hl, if_neg hl, bindP]
end
end Law
namespace Law
variable [T.TabsC]
open PySem T L2
/-! data of any form; alike -/
def okD : Nat → PyData → Prop
  | 0, _ => False
  | n + 1, .list xs => xs.length ≤ 1000 ∧ ∀ x ∈ xs, okD n x
  | n + 1, .tuple xs => xs.length ≤ 1000 ∧ ∀ x ∈ xs, okD n x
  | _ + 1, .dict _ => False
  | _ + 1, .none => True
  | _ + 1, .bool _ => True
  | _ + 1, .int _ => True
  | _ + 1, .str _ => True
theorem okD_succ : ∀ {n : Nat} {d : PyData}, okD n d → okD (n + 1) d
  | 0, _, h => h.elim
  | n + 1, .list xs, h => ⟨h.1, fun x hx => okD_succ (h.2 x hx)⟩
  | n + 1, .tuple xs, h => ⟨h.1, fun x hx => okD_succ (h.2 x hx)⟩
  | _ + 1, .dict _, h => h.elim
  | _ + 1, .none, _ => trivial
  | _ + 1, .bool _, _ => trivial
  | _ + 1, .int _, _ => trivial
  | _ + 1, .str _, _ => trivial
theorem okD_le {n m : Nat} {d : PyData} (h : okD n d) (hm : n ≤ m) : okD m d := by
  induction hm with
  | refl => exact h
  | step _ ih => exact okD_succ ih
theorem lenDO_l (xs : List PyData) : lenDO (.list xs) = some (xs.length : Int) := by unfold lenDO; rfl
theorem lenDO_t (xs : List PyData) : lenDO (.tuple xs) = some (xs.length : Int) := by unfold lenDO; rfl
theorem zipDO_l {xs ys : List PyData} (h : xs.length ≤ 1000) (h2 : ys.length ≤ 1000) : zipDO (.list xs) (.list ys) = some (zipL xs ys) := by
  unfold zipDO
  exact if_pos (by rw [decide_eq_true_eq, T.sizeLine_eq]; omega)
theorem zipDO_t {xs ys : List PyData} (h : xs.length ≤ 1000) (h2 : ys.length ≤ 1000) : zipDO (.tuple xs) (.tuple ys) = some (zipL xs ys) := by
  unfold zipDO
  exact if_pos (by rw [decide_eq_true_eq, T.sizeLine_eq]; omega)
theorem zip_self_mem {xs : List PyData} {it : T2 PyData PyData} (h : it ∈ zipL xs xs) : it.x0 ∈ xs ∧ it.x1 = it.x0 := by
  obtain ⟨i, hi⟩ := List.getElem?_of_mem h
  obtain ⟨a, b, e1, e2, rfl⟩ := zip_get hi
  rw [e1] at e2
  cases e2
  exact ⟨List.mem_of_getElem? e1, rfl⟩
theorem all_true {α : Type} : ∀ l : List α, (l.map fun _ => true).all id = true
  | [] => rfl
  | _ :: l => by rw [List.map_cons, List.all_cons, all_true l]; rfl
theorem eqDO_bool (b : Bool) : eqDO (.bool b) (.bool b) = some true := by
  unfold eqDO
  rw [if_pos (by rfl)]
  have := PySem.W.Datum.eqv b b
  rw [decide_eq_true rfl] at this
  exact congrArg some this
theorem eqDO_int (b : Int) : eqDO (.int b) (.int b) = some true := by
  unfold eqDO
  rw [if_pos (by rfl)]
  have := PySem.W.Datum.eqv b b
  rw [decide_eq_true rfl] at this
  exact congrArg some this
theorem eqDO_str (a b : Str) : eqDO (.str a) (.str b) = some (decide (a = b)) := by
  unfold eqDO
  rw [if_pos (by rfl)]
  have := PySem.W.Datum.eqv a b
  exact congrArg some this
theorem alike_self : ∀ (n : Nat) (d : PyData), okD n d → M.law_alike n d d = some true
  | 0, _, h => h.elim
  | n + 1, .list xs, h => by
    rw [M.law_alike, if_pos (by rfl), if_neg (by simp), lenDO_l, bindP, bindP, bindP, decide_eq_true rfl, if_pos (by rfl), zipDO_l h.1 h.1, bindP, lcM_ok (g := fun _ => true) (fun it hit => by
      obtain ⟨h1, h2⟩ := zip_self_mem hit
      rw [h2]
      exact alike_self n it.x0 (h.2 _ h1)), bindP, all_true]
  | n + 1, .tuple xs, h => by
    rw [M.law_alike, if_pos (by rfl), if_neg (by simp), lenDO_t, bindP, bindP, bindP, decide_eq_true rfl, if_pos (by rfl), zipDO_t h.1 h.1, bindP, lcM_ok (g := fun _ => true) (fun it hit => by
      obtain ⟨h1, h2⟩ := zip_self_mem hit
      rw [h2]
      exact alike_self n it.x0 (h.2 _ h1)), bindP, all_true]
  | n + 1, .dict _, h => h.elim
  | n + 1, .none, _ => by rw [M.law_alike]; rfl
  | n + 1, .bool b, _ => by rw [M.law_alike, if_neg (by exact Bool.false_ne_true), if_neg (by exact Bool.false_ne_true), if_pos (by rfl), if_pos (by rfl), eqDO_bool]
  | n + 1, .int b, _ => by rw [M.law_alike, if_neg (by exact Bool.false_ne_true), if_neg (by exact Bool.false_ne_true), if_neg (by exact Bool.false_ne_true), if_neg (by exact Bool.false_ne_true), if_pos (by rfl), if_pos (by rfl), eqDO_int]
  | n + 1, .str b, _ => by rw [M.law_alike, if_neg (by exact Bool.false_ne_true), if_neg (by exact Bool.false_ne_true), if_neg (by exact Bool.false_ne_true), if_pos (by rfl), if_pos (by rfl), eqDO_str, decide_eq_true rfl]
open PySem.W
end Law
namespace Law
variable [T.TabsC]
open PySem T L2 PySem.W
/-! what the laws of family B draw -/
structure TillOk (ps : List (Option Int)) (t : TillD) : Prop where
  par : t.f_parents = ps
  n1 : t.f_vouchers.length ≤ 8
  v : ∀ v ∈ t.f_vouchers, ∃ mk, v.f_marks = some mk ∧ MkOk mk ∧ VFit v
theorem mixed_ok (c k : Int) (h0 : 0 ≤ k) (h1 : k ≤ 100000) : ∃ r, M.law_mixed c k = some r ∧ 0 ≤ r := by
  unfold M.law_mixed
  dsimp only
  generalize ((c % 1000000007 + 7 * k + 1) * 48271) % 2147483647 = o
  have hr : 0 ≤ o % 1009 ∧ o % 1009 < 1009 := by omega
  rw [mulO_r (by omega) (by omega), bindP]
  exact ⟨_, rfl, Int.emod_nonneg _ (by decide)⟩
theorem cell_ok (ns : List Int) (k : Int) (h : 0 ≤ k) : ∃ r, M.law_cell ns k = some r := by
  unfold M.law_cell
  by_cases hk : k < ns.length
  · rw [if_pos (decide_eq_true hk), atO_get h hk]; exact ⟨_, rfl⟩
  · rw [if_neg (by simpa using hk)]; exact ⟨_, rfl⟩
theorem pick_ok {α : Type} {xs : List α} {i : Int} (h0 : 0 ≤ i) (h1 : i < xs.length) : ∃ x ∈ xs, atO xs i = some x := ⟨xs[i.toNat]'(by omega), List.getElem_mem _, atO_get h0 h1⟩
theorem parentsB_ok (c : Int) : ∃ ps, M.law_parents c = some ps ∧ Wf ps ∧ 1 ≤ ps.length ∧ ps.length ≤ 6 := by
  unfold M.law_parents
  dsimp only
  obtain ⟨r, er, r0⟩ := mixed_ok c 1 (by decide) (by decide)
  rw [er, bindP, bindP, bindP, rng2O_ok (by omega) (by omega) (by omega) (by omega), bindP]
  refine loopN_step (fun pre ps => Wf ps ∧ ps.length = pre.length + 1) ⟨fun k j h => by cases k with
    | zero => cases h
    | succ k => simp at h, rfl⟩ (fun pre k post ps e ⟨w, l⟩ => ?_) fun ps ⟨w, l⟩ => ⟨ps, rfl, w, by omega, by rw [l, rng_len]; omega⟩
  obtain ⟨hk, hlt⟩ := rng_at e
  obtain ⟨d, ed, d0⟩ := mixed_ok c (1 + k) (by omega) (by omega)
  rw [ed, bindP, modO_ok (by omega)]
  simp only [bindP]
  obtain ⟨x, hx, ex⟩ := pick_ok (xs := [none, some (d / 3 % k), some (d / 3 % k)]) (i := d % 3) (by omega) (by show d % 3 < 3; omega)
  rw [ex, bindP, appO_ok (by omega), bindP]
  have hb : ∀ j, x = some j → 0 ≤ j ∧ j < k := fun j z => by
    have h0 := Int.emod_nonneg (d / 3) (show k ≠ 0 by omega)
    have h1 := Int.emod_lt_of_pos (d / 3) (show 0 < k by omega)
    simp only [List.mem_cons, List.not_mem_nil, or_false] at hx
    rcases hx with rfl | rfl | rfl
    · cases z
    · cases z; exact ⟨h0, h1⟩
    · cases z; exact ⟨h0, h1⟩
  refine ⟨_, rfl, fun i j h => ?_, by simp; omega⟩
  by_cases hi : i < ps.length
  · rw [List.getElem?_append_left hi] at h
    exact w i j h
  · have : i < (ps ++ [x]).length := (List.getElem?_eq_some_iff.mp h).1
    rw [List.length_append, List.length_singleton] at this
    have hi2 : i = ps.length := by omega
    subst hi2
    rw [List.getElem?_append_right (Nat.le_refl _), Nat.sub_self] at h
    have := hb j (Option.some.inj h)
    omega
theorem coinsB_ok (c : Int) (g : Bool) : ∃ r, M.law_coins c g = some r ∧ 0 ≤ r ∧ r ≤ 1000000000000 := by
  unfold M.law_coins
  split
  · obtain ⟨x, hx, ex⟩ := pick_ok (xs := [c * 1000003 % 1000000000001, 1000000000000 - c / 4 % 3, c / 4 % 9, 0]) (i := c % 4) (by omega) (by show c % 4 < 4; omega)
    simp only [List.mem_cons, List.not_mem_nil, or_false] at hx
    exact ⟨x, ex, by omega, by omega⟩
  · obtain ⟨x, hx, ex⟩ := pick_ok (xs := [c / 4 % 7, c / 4 % 40, c / 4 % 300, 0]) (i := c % 4) (by omega) (by show c % 4 < 4; omega)
    simp only [List.mem_cons, List.not_mem_nil, or_false] at hx
    exact ⟨x, ex, by omega, by omega⟩
def mkT (m : MarksD) : HT (HC (Option Int) (HC Int (HC (Option Int) (HC Bool (HC Bool (HC Bool HU)))))) := HT.mk (HC.mk m.f_kind (HC.mk m.f_needs (HC.mk m.f_most (HC.mk m.f_member (HC.mk m.f_once (HC.mk m.f_lone HU.mk))))))
def mkD (m : MarksD) : PyData := .tuple [Datum.toD m.f_kind, .int m.f_needs, Datum.toD m.f_most, .bool m.f_member, .bool m.f_once, .bool m.f_lone]
inductive Told : PyData → VoucherD → Prop
  | off (a : Int) (m : MarksD) : Told (.tuple [.str "off", .int a, mkD m]) (.c_Off ⟨some m, a⟩)
  | share (a : Int) (m : MarksD) : Told (.tuple [.str "share", .int a, mkD m]) (.c_Share ⟨some m, a, false⟩)
  | carriage (m : MarksD) : Told (.tuple [.str "carriage", mkD m]) (.c_Carriage ⟨some m⟩)
theorem atD_t {xs : List PyData} {i : Int} {x : PyData} (h : atI xs i = some x) : atDO (.tuple xs) i = some x := by unfold atDO; exact h
theorem asOInt_ok (o : Option Int) : asOInt (Datum.toD o) = some o := by
  unfold asOInt
  cases o <;> rfl
theorem asInt_ok (i : Int) : asInt (.int i) = some i := by unfold asInt; rfl
theorem asBool_ok (i : Bool) : asBool (.bool i) = some i := by unfold asBool; rfl
/-- the marks are read -/
theorem marks_made (m : MarksD) {α : Type} (f : MarksD → Option α) : ((((atDO (mkD m) (0 : Int)) >>= fun v5 => (asOInt v5)) >>= fun v11 => ((atDO (mkD m) (1 : Int)) >>= fun v6 => (asInt v6)) >>= fun v12 => ((atDO (mkD m) (2 : Int)) >>= fun v7 => (asOInt v7)) >>= fun v13 => ((atDO (mkD m) (3 : Int)) >>= fun v8 => (asBool v8)) >>= fun v14 => ((atDO (mkD m) (4 : Int)) >>= fun v9 => (asBool v9)) >>= fun v15 => ((atDO (mkD m) (5 : Int)) >>= fun v10 => (asBool v10)) >>= fun v16 => some (M.Marks_init v11 v12 v13 v14 v15 v16)) >>= f) = f m := by
  unfold mkD
  rw [atD_t rfl, bindP, asOInt_ok, bindP, atD_t rfl, bindP, asInt_ok, bindP, atD_t rfl, bindP, asOInt_ok, bindP, atD_t rfl, bindP, asBool_ok, bindP, atD_t rfl, bindP, asBool_ok, bindP, atD_t rfl, bindP, asBool_ok, bindP, bindP]
  unfold M.Marks_init
  rfl
theorem strD (a b : Str) : eqDO (.str a) (Datum.toD b) = some (decide (a = b)) := eqDO_str a b
theorem made_ok {d : PyData} {v : VoucherD} (h : Told d v) : M.law_made d = some v := by
  unfold M.law_made
  cases h with
  | off a m =>
    rw [lenDO_t, bindP, bindP, atD_t (x := mkD m) rfl, bindP, marks_made, atD_t (x := .str "off") rfl, bindP, strD, bindP, if_pos (by decide), atD_t (x := .int a) rfl, bindP, asInt_ok, bindP, bindP]
    unfold M.Off_init M.Voucher_init
    rfl
  | share a m =>
    rw [lenDO_t, bindP, bindP, atD_t (x := mkD m) rfl, bindP, marks_made, atD_t (x := .str "share") rfl, bindP, strD, bindP, if_neg (by decide), bindP, strD, bindP, if_pos (by decide), atD_t (x := .int a) rfl, bindP, asInt_ok, bindP, bindP]
    unfold M.Share_init M.Voucher_init_1
    rfl
  | carriage m =>
    rw [lenDO_t, bindP, bindP, atD_t (x := mkD m) rfl, bindP, marks_made, atD_t (x := .str "carriage") rfl, bindP, strD, bindP, if_neg (by decide), bindP, strD, bindP, if_neg (by decide)]
    unfold M.Voucher_init_2
    rfl
theorem made_all : ∀ {ds : List PyData} {vs : List VoucherD}, Paired Told ds vs → lcM (fun (d : PyData) => M.law_made d) ds = some vs
  | _, _, .nil => rfl
  | d :: _, _, .cons h t => by
    show (M.law_made d >>= fun b => lcM (fun (d : PyData) => M.law_made d) _ >>= fun bs => some (b :: bs)) = _
    rw [made_ok h, bindP, made_all t, bindP]
/-- the basket -/
structure RowOkB (K : Int) (r : T4 Int Int Int (Option Int)) : Prop where
  k0 : 0 ≤ r.x0
  k1 : r.x0 < K
  p0 : 0 ≤ r.x1
  p1 : r.x1 ≤ 1000000000000
  m0 : 0 ≤ r.x2
  m1 : r.x2 ≤ 20
  s0 : ∀ e, r.x3 = some e → 0 ≤ e ∧ e ≤ 1000000000000
def lineB (r : (T4 Int Int Int (Option Int))) : LineD := ⟨r.x0, r.x1, r.x2, r.x3⟩
theorem enum_x1 {α β : Type} (f : α → β) (as : List α) : (enumL as).map (fun t => f t.x1) = as.map f := by
  have key : ∀ (as : List α) (n : Nat), ((as.zipIdx n).map fun p => f p.1) = as.map f := by
    intro as
    induction as with
    | nil => intro n; rfl
    | cons a as ih => intro n; rw [List.zipIdx_cons, List.map_cons, List.map_cons, ih]
  unfold enumL
  rw [List.map_map]
  exact key as 0
theorem own_sum (ls : List LineD) : (ownersOf ls).length = (ls.map fun l => l.f_many.toNat).sum := by
  unfold ownersOf
  rw [List.length_flatMap, ← enum_x1 (fun l : LineD => l.f_many.toNat) ls]
  refine congrArg List.sum (List.map_congr_left fun t _ => ?_)
  rw [List.length_replicate]
theorem many_sum : ∀ {rs : List (T4 Int Int Int (Option Int))}, (∀ r ∈ rs, 0 ≤ r.x2) → ((((rs.map lineB).map fun l => l.f_many.toNat).sum : Nat) : Int) = (rs.map fun r => r.x2).sum
  | [], _ => rfl
  | r :: rs, h => by
    have h0 := h r List.mem_cons_self
    have ih := many_sum (rs := rs) fun x hx => h x (List.mem_cons_of_mem _ hx)
    rw [List.map_cons, List.map_cons, List.map_cons, List.sum_cons, List.sum_cons, ← ih]
    have e : (lineB r).f_many = r.x2 := rfl
    rw [e, Int.natCast_add]
    omega
theorem bkB_ok {K : Int} {rs : List (T4 Int Int Int (Option Int))} {c : Int} {m : Bool} (h : ∀ r ∈ rs, RowOkB K r) (hl : rs.length ≤ 12) (hs : (rs.map fun r => r.x2).sum ≤ 60) (c0 : 0 ≤ c) (c1 : c ≤ 1000000000000) : BkOk K ⟨rs.map lineB, c, m⟩ := by
  refine ⟨by show (rs.map lineB).length ≤ 12; rw [List.length_map]; exact hl, fun l hl => ?_, fun l hl => ?_, ?_, c0, c1⟩
  · obtain ⟨r, hr, rfl⟩ := List.mem_map.mp hl
    have q := h r hr
    exact ⟨q.k0, q.k1, q.p0, q.p1, q.s0⟩
  · obtain ⟨r, hr, rfl⟩ := List.mem_map.mp hl
    exact ⟨(h r hr).m0, (h r hr).m1⟩
  · have e := many_sum fun r hr => (h r hr).m0
    show (ownersOf (rs.map lineB)).length ≤ 60
    rw [own_sum]
    omega
theorem basketB_ok (c : Int) {K : Int} (hK : 0 < K) (g : Bool) : ∃ rs ca m, M.law_basket c K g = some (T3.mk rs ca m) ∧ M.law_basket_made (T3.mk rs ca m) = ⟨rs.map lineB, ca, m⟩ ∧ BkOk K ⟨rs.map lineB, ca, m⟩ := by
  unfold M.law_basket
  obtain ⟨h, eh, h0⟩ := mixed_ok c 21 (by decide) (by decide)
  rw [eh, bindP]
  dsimp only
  obtain ⟨n, hn, en⟩ := pick_ok (xs := [(1 : Int), 2, 3, 4, 2]) (i := h % 5) (by omega) (by show h % 5 < 5; omega)
  have hn : 1 ≤ n ∧ n ≤ 4 := by
    simp only [List.mem_cons, List.not_mem_nil, or_false] at hn
    omega
  rw [en, bindP, rng1O_ok (by omega) (by omega), bindP]
  have hloop := loopN_ind (f := (fun (z2 : (List (T4 Int Int Int (Option Int)))) (x_law_k : Int) => ((M.law_mixed c ((22 : Int) + x_law_k)) >>= fun x_law_drawn => ((atO (((x_law_drawn / (8 : Int)) % (5 : Int)) :: ((20 : Int) :: ([] : (List Int)))) (b2z (decide ((x_law_drawn % (8 : Int)) = (7 : Int))))) >>= fun x_law_many => (((((((M.law_coins (x_law_drawn / (1000 : Int)) g) >>= fun v8 => some ((some v8 : (Option Int)))) >>= fun v9 => some (v9 :: ([] : (List (Option Int))))) >>= fun v10 => some ((none : (Option Int)) :: v10)) >>= fun v11 => some ((none : (Option Int)) :: v11)) >>= fun v12 => (atO v12 ((x_law_drawn / (40 : Int)) % (3 : Int)))) >>= fun x_law_special => (((modO (x_law_drawn / (120 : Int)) K) >>= fun v13 => (M.law_coins (x_law_drawn / (7 : Int)) g) >>= fun v14 => some (T4.mk v13 v14 x_law_many x_law_special)) >>= fun v15 => (appO z2 v15 >>= fun x_law_lines => some x_law_lines))))))) (as := rng 0 n.toNat) (s0 := ([] : List (T4 Int Int Int (Option Int)))) (fun pre rs => rs.length = pre.length ∧ ∀ r ∈ rs, RowOkB K r) ⟨rfl, fun r hr => by cases hr⟩ fun pre k post rs e ⟨l, w⟩ => by
    obtain ⟨hk, hlt⟩ := rng_at e
    obtain ⟨d, ed, d0⟩ := mixed_ok c (22 + k) (by omega) (by omega)
    rw [ed, bindP]
    have hz : 0 ≤ b2z (decide (d % 8 = 7)) ∧ b2z (decide (d % 8 = 7)) < 2 := by unfold b2z; split <;> decide
    obtain ⟨mn, hm, em⟩ := pick_ok (xs := [d / 8 % 5, 20]) (i := b2z (decide (d % 8 = 7))) hz.1 hz.2
    obtain ⟨s, es, s0, s1⟩ := coinsB_ok (d / 1000) g
    rw [em, bindP, es, bindP, bindP, bindP, bindP, bindP]
    obtain ⟨sp, hsp, esp⟩ := pick_ok (xs := [none, none, some s]) (i := d / 40 % 3) (by omega) (by show d / 40 % 3 < 3; omega)
    obtain ⟨p, ep, p0, p1⟩ := coinsB_ok (d / 7) g
    rw [esp, bindP, modO_ok hK, bindP, ep, bindP, bindP, appO_ok (by omega), bindP]
    refine ⟨_, rfl, by simp [l], fun r hr => ?_⟩
    rcases List.mem_append.mp hr with q | q
    · exact w r q
    · rw [List.mem_singleton.mp q]
      simp only [List.mem_cons, List.not_mem_nil, or_false] at hm
      refine ⟨Int.emod_nonneg _ (by omega), Int.emod_lt_of_pos _ hK, p0, p1, by show 0 ≤ mn; omega, by show mn ≤ 20; omega, fun e he => ?_⟩
      have he : sp = some e := he
      subst he
      simp only [List.mem_cons, List.not_mem_nil, or_false, reduceCtorEq, false_or] at hsp
      cases hsp
      exact ⟨s0, s1⟩
  obtain ⟨rs, er, l, w⟩ := hloop
  rw [er, bindP]
  obtain ⟨ca, ec, c0, c1⟩ := coinsB_ok (h / 5) g
  rw [ec, bindP]
  have lenn : rs.length ≤ 4 := by rw [l, rng_len]; omega
  have hmap : ∀ zs : List (T4 Int Int Int (Option Int)), (zs.map (fun (it3 : (T4 Int Int Int (Option Int))) => (M.Line_init it3.x0 it3.x1 it3.x2 it3.x3))) = zs.map lineB := fun zs => List.map_congr_left fun r _ => by unfold M.Line_init; rfl
  have hmk : ∀ zs m, M.law_basket_made (T3.mk zs ca m) = ⟨zs.map lineB, ca, m⟩ := fun zs m => by
    unfold M.law_basket_made M.Basket_init
    dsimp only
    rw [hmap]
  refine ⟨_, ca, _, rfl, hmk _ _, ?_⟩
  split
  · rw [cutO_to _ (by decide)]
    have hsum : ((rs.take (1 : Int).toNat).map fun r => r.x2).sum ≤ 20 := by
      cases rs with
      | nil => decide
      | cons r rs =>
        show ((List.take 1 (r :: rs)).map fun r => r.x2).sum ≤ 20
        rw [List.take_succ_cons, List.take_zero]
        have := (w r List.mem_cons_self).m1
        show r.x2 + 0 ≤ 20
        omega
    exact bkB_ok (fun r hr => w r (List.mem_of_mem_take hr)) (by rw [List.length_take]; omega) (by omega) c0 c1
  · rename_i hs
    have hs : ¬ (rs.map fun r => r.x2).sum > 30 := fun z => hs (decide_eq_true z)
    exact bkB_ok w (by omega) (by omega) c0 c1
theorem orderB_ok (c : Int) {n : Nat} (hn : 0 < n) : ∃ o, M.law_order c (n : Int) = some o ∧ InR o n ∧ o.length ≤ 8 := by
  unfold M.law_order
  obtain ⟨d, ed, d0⟩ := mixed_ok c 39 (by decide) (by decide)
  rw [ed, bindP, bindP, rng1O_ok (by omega) (by omega), bindP]
  obtain ⟨o, eo, l, q⟩ := lcM_ex (f := fun (x_law_j : Int) => ((M.law_mixed c ((40 : Int) + x_law_j)) >>= fun v3 => (modO v3 (n : Int)))) (R := fun _ x => 0 ≤ x ∧ x < n) (as := rng 0 (d % 9).toNat) fun j hj => by
    obtain ⟨j0, j1⟩ := rng_mem hj
    obtain ⟨r, er, r0⟩ := mixed_ok c (40 + j) (by omega) (by omega)
    rw [er, bindP, modO_ok (by omega)]
    exact ⟨_, rfl, Int.emod_nonneg _ (by omega), Int.emod_lt_of_pos _ (by omega)⟩
  refine ⟨o, eo, fun i hi => ?_, by rw [l, rng_len]; omega⟩
  obtain ⟨_, _, h⟩ := q i hi
  exact h
end Law
namespace Law
variable [T.TabsC]
open PySem T L2
section
variable {t : TillD} {ps : List (Option Int)} {b : BasketD} {st : StandingD}
end
end Law
namespace Law
variable [T.TabsC]
open PySem T L2
section
variable {t : TillD} {ps : List (Option Int)} {b : BasketD} {st : StandingD}
end
end Law
namespace Law
variable [T.TabsC]
open PySem T L2
end Law
namespace Law
variable [T.TabsC]
open PySem T L2
theorem loopC_find {α ρ : Type} {c : α → Bool} {F : α → ρ} : ∀ as : List α, loopC (fun (_ : Unit) a => ((if c a = true then some (Ctl.rt (F a)) else some (Ctl.nx ())) : Option (Ctl Unit Unit ρ))) as () = some (match as.find? c with | some a => Ctl.rt (F a) | none => Ctl.nx ())
  | [] => rfl
  | a :: as => by
    unfold loopC
    rw [List.find?_cons]
    cases e : c a with
    | true => rfl
    | false => exact loopC_find as
theorem find_any {α : Type} {c : α → Bool} : ∀ as : List α, (as.find? c).isSome = as.any c
  | [] => rfl
  | a :: as => by
    rw [List.find?_cons, List.any_cons]
    cases e : c a with
    | true => rfl
    | false => exact find_any as
def neverC (ahead : List Int) (v : Int) (r : T3 Str Int Int) : Bool := (decide (r.x0 = ("never" : Str))) && (((decide (r.x1 = v)) && (decide (r.x2 ∈ ahead))) || ((decide (r.x2 = v)) && (decide (r.x1 ∈ ahead))))
def lateC (ahead : List Int) (v : Int) (r : T3 Str Int Int) : Bool := (decide (r.x0 = ("ahead" : Str))) && ((decide (r.x1 = v)) && (decide (r.x2 ∈ ahead)))
def onlyC (o : List Int) (r : T3 Str Int Int) : Bool := (decide (r.x0 = ("only" : Str))) && ((decide (r.x1 ∈ o)) && (!decide (r.x2 ∈ o)))
theorem never_eq (t : TillD) (ahead : List Int) (v : Int) : M.never_beside t ahead v = some (t.f_rules.any (neverC ahead v)) := by
  unfold M.never_beside
  rw [← find_any]
  show (loopC (fun (_ : Unit) r => ((if neverC ahead v r = true then some (Ctl.rt true) else some (Ctl.nx ())) : Option (Ctl Unit Unit Bool))) t.f_rules () >>= _) = _
  rw [loopC_find (F := fun _ => true), bindP]
  cases t.f_rules.find? (neverC ahead v) <;> rfl
theorem late_eq (t : TillD) (ahead : List Int) (v : Int) : M.comes_late t ahead v = some (t.f_rules.any (lateC ahead v)) := by
  unfold M.comes_late
  rw [← find_any]
  show (loopC (fun (_ : Unit) r => ((if lateC ahead v r = true then some (Ctl.rt true) else some (Ctl.nx ())) : Option (Ctl Unit Unit Bool))) t.f_rules () >>= _) = _
  rw [loopC_find (F := fun _ => true), bindP]
  cases t.f_rules.find? (lateC ahead v) <;> rfl
theorem lack_eq2 (t : TillD) (o : List Int) : M.lacking t o = some (t.f_rules.find? (onlyC o)) := by
  unfold M.lacking
  show (loopC (fun (_ : Unit) r => ((if onlyC o r = true then some (Ctl.rt (some r)) else some (Ctl.nx ())) : Option (Ctl Unit Unit (Option (T3 Str Int Int))))) t.f_rules () >>= _) = _
  rw [loopC_find (F := fun r => some r), bindP]
  cases t.f_rules.find? (onlyC o) <;> rfl
end Law
namespace Law
variable [T.TabsC]
open PySem T L2
/-! the cut, exactly -/
def setAll (zs : List (T2 Int Int)) (w : List Int) : List Int := zs.foldl (fun z t => z.set t.x0.toNat t.x1) w
theorem setAll_len (zs : List (T2 Int Int)) : ∀ w : List Int, (setAll zs w).length = w.length := by
  induction zs with
  | nil => intro w; rfl
  | cons t zs ih => intro w; exact (ih _).trans List.length_set
theorem setAll_snoc (zs : List (T2 Int Int)) (t : T2 Int Int) (w : List Int) : setAll (zs ++ [t]) w = (setAll zs w).set t.x0.toNat t.x1 := by
  unfold setAll
  rw [List.foldl_append]; rfl
theorem set_all {zs : List (T2 Int Int)} {w : List Int} (h : ∀ t ∈ zs, 0 ≤ t.x0 ∧ t.x0 < w.length) : loopN (fun (z : List Int) (it : T2 Int Int) => (setO z it.x0 it.x1 >>= fun x => some x)) zs w = some (setAll zs w) := by
  obtain ⟨s, e, hs⟩ := loopN_ind (as := zs) (f := fun (z : List Int) (it : T2 Int Int) => (setO z it.x0 it.x1 >>= fun x => some x)) (s0 := w) (fun pre s => s = setAll pre w) rfl (fun pre t post s e hs => by
    obtain ⟨h0, h1⟩ := h t (by rw [e]; simp)
    subst hs
    rw [setO_ok h0 (by rw [setAll_len]; exact h1), bindP]
    exact ⟨_, rfl, (setAll_snoc _ _ _).symm⟩)
  rw [e, hs]
theorem zip_in {g w : List Int} {n : Nat} (h : InR g n) : ∀ t ∈ zipL g w, 0 ≤ t.x0 ∧ t.x0 < n := fun t ht => by
  obtain ⟨i, hi⟩ := List.getElem?_of_mem ht
  obtain ⟨a, b, e1, e2, rfl⟩ := zip_get hi
  exact h a (List.mem_of_getElem? e1)
def toldS (n : Nat) (pieces w : List Int) : List Int := setAll (zipL pieces w) (List.replicate n 0)
theorem cuts_tail0 {mks : Option MarksD} {mk : MarksD} (hm : mks = some mk) (hk : mk.f_most = none) {pr pieces w : List Int} {fee : Int} (h : PrOk pr) (hi : InR pieces pr.length) :
    ((mks >>= fun v7 => some (v7.f_most)) >>= fun x_most => ((if x_most.isSome = true then (x_most >>= fun v9 => some (decide ((w.sum + fee) > v9))) else some false) >>= fun v26 => ((if v26 = true then (((x_most >>= fun v20 => some (min v20 w.sum)) >>= fun v21 => M.dealt v21 w) >>= fun x_wanted => ((x_most >>= fun v25 => some (min v25 fee)) >>= fun x_fee => some (x_wanted, x_fee))) else some (w, fee)) >>= (fun (z10 : ((List Int) × Int)) => ((repO ((0 : Int) :: ([] : (List Int))) (pr.length : Int)) >>= fun x_told => (loopN (fun (z13 : (List Int)) (it14 : (T2 Int Int)) => (setO z13 it14.x0 it14.x1 >>= fun x_told => some x_told)) (zipL pieces z10.1) x_told >>= fun z15 => some (T2.mk z15 z10.2))))))) = some (T2.mk (toldS pr.length pieces w) fee) := by
  rw [hm, bindP, bindP, hk]
  rw [if_neg (by simp), bindP, if_neg Bool.false_ne_true, bindP, rep0_ok h, bindP, set_all (fun t ht => by rw [List.length_replicate]; exact zip_in hi t ht), bindP]
  rfl
end Law
-- uses: C_dealt C_tree C_stand C_under C_baskG C_woff C_wshare C_aboutG C_about=VoucherD C_cutsG C_cuts=VoucherD C_vfit3 C_cutsV3 C_hind C_afterxG C_afterx=VoucherD C_dy C_gen3 C_word=word_of C_wordF C_loops C_due3 C_exact
namespace Law
variable [T.TabsC]
open PySem T L2 PySem.W
/-! the law's own standing -/
theorem enum_map {α β : Type} (f : α → β) (as : List α) : enumL (as.map f) = (enumL as).map fun t => T2.mk t.x0 (f t.x1) := by
  have key : ∀ (as : List α) (n : Nat), (((as.map f).zipIdx n).map fun p => T2.mk (p.2 : Int) p.1) = ((as.zipIdx n).map fun p => T2.mk (p.2 : Int) p.1).map fun t => T2.mk t.x0 (f t.x1) := by
    intro as
    induction as with
    | nil => intro n; rfl
    | cons a as ih => intro n; rw [List.map_cons, List.zipIdx_cons, List.map_cons, ih, List.zipIdx_cons, List.map_cons, List.map_cons]
  unfold enumL
  exact key as 0
abbrev StR := HR [("prices" : Str), ("owners" : Str), ("marked" : Str)] (HC (List Int) (HC (List Int) (HC (List Bool) HU)))
def mkSt (p o : List Int) (m : List Bool) : StR := HR.mk (HC.mk p (HC.mk o (HC.mk m HU.mk)))
abbrev Row := T4 Int Int Int (Option Int)
theorem begun_ok {K : Int} {rs : List Row} {ca : Int} {m : Bool} (hb : BkOk K ⟨rs.map lineB, ca, m⟩) :
    M.law_begun (T3.mk rs ca m) = some (mkSt (pricesOf (rs.map lineB) m) (ownersOf (rs.map lineB)) (rs.map fun _ => false)) := by
  have hl : rs.length ≤ 12 := by have := hb.len; simpa using this
  have hm : ∀ r ∈ rs, 0 ≤ r.x2 ∧ r.x2 ≤ 20 := fun r hr => hb.m (lineB r) (List.mem_map.mpr ⟨r, hr, rfl⟩)
  have ep : pricesOf (rs.map lineB) m = (enumL rs).flatMap fun t => List.replicate t.x1.x2.toNat (pp (lineB t.x1) m) := by
    unfold pricesOf
    rw [enum_map, List.flatMap_map]
    rfl
  have eo : ownersOf (rs.map lineB) = (enumL rs).flatMap fun t => List.replicate t.x1.x2.toNat t.x0 := by
    unfold ownersOf
    rw [enum_map, List.flatMap_map]
    rfl
  unfold M.law_begun
  dsimp only
  rw [ep, eo]
  refine loopN_eq (fun pre (s : List Int × List Int × List Bool) => s = (pre.flatMap (fun t => List.replicate t.x1.x2.toNat (pp (lineB t.x1) m)), pre.flatMap (fun t => List.replicate t.x1.x2.toNat t.x0), rs.map fun _ => false)) rfl (fun pre t post s e hs => ?_) fun s hs => ?_
  · subst hs
    have ht : t ∈ enumL rs := by rw [e]; simp
    obtain ⟨m0, m1⟩ := hm _ (enum_mem ht)
    have hpre : pre.length ≤ 12 := by
      have he := enum_len' rs
      rw [e, List.length_append, List.length_cons] at he
      omega
    have hbp : ∀ t ∈ pre, 0 ≤ t.x1.x2 ∧ t.x1.x2 ≤ 20 := fun t ht => hm _ (enum_mem (by rw [e]; exact List.mem_append_left _ ht))
    have b1 := flat_len (as := pre) (g := fun t : T2 Int Row => List.replicate t.x1.x2.toNat t.x0) (n := 20) fun t ht => by rw [List.length_replicate]; have := hbp t ht; omega
    have b2 := flat_len (as := pre) (g := fun t : T2 Int Row => List.replicate t.x1.x2.toNat (pp (lineB t.x1) m)) (n := 20) fun t ht => by rw [List.length_replicate]; have := hbp t ht; omega
    dsimp only
    rw [rng1O_ok (by omega) (by omega), bindP, flat_snoc, flat_snoc]
    generalize pre.flatMap (fun t => List.replicate t.x1.x2.toNat t.x0) = os at b1
    generalize pre.flatMap (fun t => List.replicate t.x1.x2.toNat (pp (lineB t.x1) m)) = ps at b2
    refine ⟨_, ?_, rfl⟩
    refine loopN_eq (fun done (s : List Int × List Int × List Bool) => s = (ps ++ List.replicate done.length (pp (lineB t.x1) m), os ++ List.replicate done.length t.x0, rs.map fun _ => false)) (by simp) (fun done j post2 s e2 hs => ?_) fun s hs => ?_
    · subst hs
      obtain ⟨hj, hlt⟩ := rng_at e2
      have hdl : done.length ≤ 20 := by omega
      dsimp only
      rw [appO_ok (by rw [List.length_append, List.length_replicate]; omega), bindP, List.length_append, List.length_singleton, rep_snoc, rep_snoc, ← List.append_assoc, ← List.append_assoc]
      by_cases hc : (m && t.x1.x3.isSome) = true
      · rw [if_pos hc]
        obtain ⟨x, hx⟩ : ∃ x, t.x1.x3 = some x := by
          rw [Bool.and_eq_true] at hc
          exact Option.isSome_iff_exists.mp hc.2
        have hpp : pp (lineB t.x1) m = x := by
          unfold pp lineB
          dsimp only
          rw [if_pos hc, hx]
          rfl
        rw [hpp, hx, bindP, appO_ok (by rw [List.length_append, List.length_replicate]; omega), bindP, bindP]
        exact ⟨_, rfl, rfl⟩
      · rw [if_neg hc]
        have hpp : pp (lineB t.x1) m = t.x1.x1 := by
          unfold pp lineB
          dsimp only
          rw [if_neg hc]
        rw [hpp, appO_ok (by rw [List.length_append, List.length_replicate]; omega), bindP, bindP]
        exact ⟨_, rfl, rfl⟩
    · subst hs
      rw [rng_len]
  · subst hs
    rfl
/-! under, about -/
theorem eqDO_int2 (a b : Int) : eqDO (.int a) (.int b) = some (decide (a = b)) := by
  unfold eqDO
  rw [if_pos (by rfl)]
  exact congrArg some (PySem.W.Datum.eqv a b)
theorem lunder_ok {ps : List (Option Int)} (w : Wf ps) {k other : Int} (h0 : 0 ≤ k) (hl : k < ps.length) (hm : ps.length ≤ 1000) : M.law_under ps (some k) (Datum.toD (some other)) = some (decide (other ∈ ups ps k)) := by
  unfold M.law_under
  have hcm : ∀ z : Option Int, (if z.isSome = true then (eqDO (PySem.W.Datum.toD (z : (Option Int))) (Datum.toD (some other : Option Int)) >>= fun c => some (!c)) else some false) = some (z.isSome && !decide (z = (some other : Option Int))) := fun z => by
    cases z with
    | none => rfl
    | some i =>
      rw [if_pos (by rfl)]
      show (eqDO (.int i) (.int other) >>= fun c => some (!c)) = _
      rw [eqDO_int2, bindP]
      simp
  rw [while_up w other hcm (fun _ => rfl) k.toNat k h0 hl (Nat.le_refl _) 1000000 (by omega), bindP]
  show some _ = some _
  by_cases h : other ∈ ups ps k
  · rw [if_pos h, decide_eq_true h]; rfl
  · rw [if_neg h, decide_eq_false h]; rfl
end Law
namespace Law
variable [T.TabsC]
open PySem T L2 PySem.W
section
variable {ps : List (Option Int)} {b : BasketD} {st : StandingD}
theorem atD_last (fr : List PyData) (x : PyData) (hl : fr.length ≤ 3) : (((lenDO (.tuple (fr ++ [x]))) >>= fun v3 => some (v3 - (1 : Int))) >>= fun v4 => (atDO (.tuple (fr ++ [x])) v4)) = some x := by
  rw [lenDO_t, bindP, bindP]
  refine atD_t ?_
  have : ((fr ++ [x]).length : Int) - 1 = (fr.length : Int) := by rw [List.length_append, List.length_singleton]; omega
  rw [this]
  exact atI_nat (by rw [List.getElem?_append_right (Nat.le_refl _), Nat.sub_self]; rfl)
theorem isND_oint (o : Option Int) : isND (Datum.toD o) = o.isNone := by cases o <;> rfl
theorem mkD_at0 (m : MarksD) : atDO (mkD m) (0 : Int) = some (Datum.toD m.f_kind) := atD_t rfl
theorem mkD_at1 (m : MarksD) : atDO (mkD m) (1 : Int) = some (.int m.f_needs) := atD_t rfl
theorem mkD_at3 (m : MarksD) : atDO (mkD m) (3 : Int) = some (.bool m.f_member) := atD_t rfl
theorem mkD_at5 (m : MarksD) : atDO (mkD m) (5 : Int) = some (.bool m.f_lone) := atD_t rfl
theorem lasts {d : PyData} {v : VoucherD} (h : Told d v) : ∃ mk, v.f_marks = some mk ∧ ∃ fr, d = .tuple (fr ++ [mkD mk]) ∧ fr.length ≤ 3 := by
  cases h with
  | off a m => exact ⟨m, rfl, [.str "off", .int a], rfl, Nat.le_of_ble_eq_true rfl⟩
  | share a m => exact ⟨m, rfl, [.str "share", .int a], rfl, Nat.le_of_ble_eq_true rfl⟩
  | carriage m => exact ⟨m, rfl, [.str "carriage"], rfl, Nat.le_of_ble_eq_true rfl⟩
def fitB (ps : List (Option Int)) (kd : Option Int) (k : Int) : Bool := match kd with
  | none => true
  | some x => decide (x ∈ ups ps k)
theorem okAt_eq (ls : List LineD) (mk : List Bool) (kd : Option Int) (lo : Bool) (o : Int) : okAt ps ls mk kd lo o = (fitB ps kd (kindAt ls o) && !(lo && mk.getD o.toNat false)) := by cases kd <;> rfl
theorem labout_ok {d : PyData} {v : VoucherD} (h : Told d v) {mk : MarksD} (hm : v.f_marks = some mk) {rs : List Row} {ca : Int} {mem : Bool} (w : Wf ps) (hps : ps.length ≤ 20) (hb : BkOk ps.length ⟨rs.map lineB, ca, mem⟩) (hs : StOk ⟨rs.map lineB, ca, mem⟩ st) (pr : List Int) :
    M.law_about d ps (T3.mk rs ca mem) (mkSt pr st.f_owners st.f_marked) = some (aboutS ps (rs.map lineB) st.f_marked mk.f_kind mk.f_lone st.f_owners) := by
  obtain ⟨mk', hm', fr, rfl, hfr⟩ := lasts h
  rw [hm] at hm'
  cases hm'
  unfold M.law_about mkSt
  rw [atD_last fr _ hfr, bindP]
  obtain ⟨kd, nd, mo, me, on, lo⟩ := mk
  dsimp only
  have hol : st.f_owners.length ≤ 60 := by rw [hs.ow]; exact hb.own
  refine loopN_eq (fun pre (z : List Int) => z = (pre.filter fun t => okAt ps (rs.map lineB) st.f_marked kd lo t.x1).map fun t => t.x0) rfl (fun pre t post z e hz => ?_) fun z hz => ?_
  · have ht : t ∈ enumL st.f_owners := by rw [e]; simp
    obtain ⟨o0, o1⟩ := hs.oin _ (enum_mem ht)
    obtain ⟨l, e1, hl, hk⟩ := kind_at o0 o1
    have lk := hb.l l hl
    have hml := hs.ml
    have o1' : t.x1 < rs.length := by have : t.x1 < (rs.map lineB).length := o1; rwa [List.length_map] at this
    have hr : ∃ r, atO rs t.x1 = some r ∧ r.x0 = l.f_kind := by
      refine ⟨_, atO_get o0 o1', ?_⟩
      have e2 := atO_get (xs := rs.map lineB) o0 o1
      have e1' : atO (rs.map lineB) t.x1 = some l := e1
      rw [e2] at e1'
      have := Option.some.inj e1'
      rw [← this, List.getElem_map]
      rfl
    obtain ⟨r, er, hrk⟩ := hr
    have hpl : pre.length ≤ 60 := by
      have : (enumL st.f_owners).length = pre.length + (post.length + 1) := by rw [e]; simp
      rw [enum_len'] at this
      omega
    have hzl : z.length ≤ 60 := by
      rw [hz, List.length_map]
      have := List.length_filter_le (fun t : T2 Int Int => okAt ps (rs.map lineB) st.f_marked kd lo t.x1) pre
      omega
    have hfits : (((atDO (mkD ⟨kd, nd, mo, me, on, lo⟩) (0 : Int)) >>= fun v15 => some ((isND v15))) >>= fun v20 => (if v20 = true then some true else ((((atO rs t.x1) >>= fun v16 => some (v16.x0)) >>= fun v17 => some ((some v17 : (Option Int)))) >>= fun v18 => (atDO (mkD ⟨kd, nd, mo, me, on, lo⟩) (0 : Int)) >>= fun v19 => M.law_under ps v18 v19))) = some (fitB ps kd l.f_kind) := by
      rw [mkD_at0, bindP, bindP]
      show (if isND (Datum.toD kd) = true then _ else _) = _
      rw [isND_oint]
      cases kd with
      | none => rfl
      | some k =>
        rw [if_neg (by simp), er, bindP, bindP, bindP, hrk]
        exact lunder_ok w lk.k0 lk.k1 (by omega)
    rw [hfits, bindP, mark_at o0 (by rw [hml]; exact o1)]
    rw [List.filter_append, List.map_append, List.filter_cons, List.filter_nil]
    have hok : okAt ps (rs.map lineB) st.f_marked kd lo t.x1 = (fitB ps kd l.f_kind && !(lo && st.f_marked.getD t.x1.toNat false)) := by
      rw [okAt_eq, hk]
    rw [hok]
    generalize fitB ps kd l.f_kind = c
    have h5 : atDO (mkD ⟨kd, nd, mo, me, on, lo⟩) (5 : Int) = some (.bool lo) := atD_t rfl
    rw [h5, bindP, asBool_ok, bindP]
    cases c with
    | false => exact ⟨z, rfl, by rw [hz]; simp⟩
    | true =>
      cases lo with
      | false =>
        refine ⟨z ++ [t.x0], ?_, by rw [hz]; simp⟩
        rw [if_pos rfl, if_neg Bool.false_ne_true, bindP, bindP, if_pos (by rfl), appO_ok (by omega), bindP, bindP]
      | true =>
        rw [if_pos rfl, if_pos rfl, bindP]
        cases q : st.f_marked.getD t.x1.toNat false with
        | true => exact ⟨z, rfl, by rw [hz]; simp⟩
        | false =>
          refine ⟨z ++ [t.x0], ?_, by rw [hz]; simp⟩
          rw [bindP, if_pos (by rfl), appO_ok (by omega), bindP, bindP]
  · subst hz
    show some _ = some _
    congr 1
    unfold aboutS
    rw [enum_rng, List.filter_map, List.map_map]
    exact List.map_id _
end
end Law
namespace Law
variable [T.TabsC]
open PySem T L2 PySem.W
section
variable {ps : List (Option Int)} {b : BasketD} {st : StandingD}
theorem lhind_ok {d : PyData} {v : VoucherD} (h : Told d v) {mk : MarksD} (hm : v.f_marks = some mk) {rs : List Row} {ca : Int} {mem : Bool} {pieces pr : List Int} (hin : InR pieces pr.length) (o : List Int) (ml : List Bool) :
    M.law_hindrance d (T3.mk rs ca mem) pieces (mkSt pr o ml) = some (hindS mk ⟨rs.map lineB, ca, mem⟩ pieces.length (vals pr pieces).sum) := by
  obtain ⟨mk', hm', fr, rfl, hfr⟩ := lasts h
  rw [hm] at hm'
  cases hm'
  unfold M.law_hindrance mkSt hindS
  rw [atD_last fr _ hfr, bindP, mkD_at3, bindP, asBool_ok, bindP]
  dsimp only
  have e : (if mk.f_member = true then some (!mem) else some false) = some (mk.f_member && !mem) := by cases mk.f_member <;> rfl
  rw [e, bindP]
  by_cases h1 : (mk.f_member && !mem) = true
  · rw [if_pos h1, if_pos h1]
  rw [if_neg h1, if_neg h1]
  have h2 : decide (pieces = ([] : List Int)) = decide ((pieces.length : Int) = 0) := by
    cases pieces with
    | nil => rfl
    | cons a l => rw [decide_eq_false (by simp), decide_eq_false (by rw [List.length_cons]; omega)]
  rw [h2]
  by_cases h3 : decide ((pieces.length : Int) = 0) = true
  · rw [if_pos h3, if_pos h3]
  rw [if_neg h3, if_neg h3, vals_ok hin, bindP, bindP, mkD_at1, bindP, asInt_ok, bindP, bindP]
  by_cases h4 : decide ((vals pr pieces).sum < mk.f_needs) = true
  · rw [if_pos h4, if_pos h4]
  · rw [if_neg h4, if_neg h4]
/-- what is cut off the pieces, by the law -/
def cutV (v : VoucherD) (W : Int) : Int := match v with
  | .c_Off o => min o.f_amount W
  | .c_Share o => W * o.f_share / 1000
  | .c_Carriage _ => 0
def usedF (W cut : Int) (lone : Bool) (ow : List Int) (z : Int × Int × List Int × List Bool) (p : Int) : Int × Int × List Int × List Bool :=
  (z.1 + z.2.2.1.getD p.toNat 0, z.2.1 + (if decide (W > 0) = true then cut * (z.1 + z.2.2.1.getD p.toNat 0) / W - z.2.1 else 0), z.2.2.1.set p.toNat (z.2.2.1.getD p.toNat 0 - (if decide (W > 0) = true then cut * (z.1 + z.2.2.1.getD p.toNat 0) / W - z.2.1 else 0)),
    if (decide ((if decide (W > 0) = true then cut * (z.1 + z.2.2.1.getD p.toNat 0) / W - z.2.1 else 0) > 0) && lone) = true then z.2.2.2.set (ow.getD p.toNat 0).toNat true else z.2.2.2)
theorem used_loop {d : PyData} {mk : MarksD} {fr : List PyData} (hd : d = .tuple (fr ++ [mkD mk])) (hfr : fr.length ≤ 3) {pieces pr ow : List Int} {ml : List Bool} {L : Nat} {W C : Int} (hin : InR pieces pr.length) (hpr : PrOk pr) (hol : ow.length = pr.length) (ho : ∀ o ∈ ow, 0 ≤ o ∧ o < L) (hml : ml.length = L) (hW : W < 2 ^ 1000) (c0 : 0 ≤ C) (c1 : C ≤ 60000000000000) :
    loopN (fun (z5 : (Int × Int × (List Int) × (List Int) × (List Bool))) (x_law_piece : Int) => (((atO z5.2.2.1 x_law_piece) >>= fun v7 => some (z5.1 + v7)) >>= fun x_law_upto => (let x_law_part : Int := (0 : Int); ((if (decide (W > (0 : Int))) = true then ((((mulO C x_law_upto) >>= fun v20 => (divO v20 W)) >>= fun v21 => some (v21 - z5.2.1)) >>= fun x_law_part => some x_law_part) else some x_law_part) >>= (fun (z8 : Int) => (let x_law_gone : Int := (z5.2.1 + z8); (((atO z5.2.2.1 x_law_piece) >>= fun v9 => some (v9 - z8)) >>= fun v17 => (setO z5.2.2.1 x_law_piece v17 >>= fun x_law_state_0 => ((if (decide (z8 > (0 : Int))) = true then (((((lenDO d) >>= fun v10 => some (v10 - (1 : Int))) >>= fun v11 => (atDO d v11)) >>= fun v12 => (atDO v12 (5 : Int))) >>= fun v13 => (asBool v13)) else some false) >>= fun v16 => ((if v16 = true then ((atO z5.2.2.2.1 x_law_piece) >>= fun v15 => (setO z5.2.2.2.2 v15 true >>= fun x_law_state_2 => some (x_law_state_0, z5.2.2.2.1, x_law_state_2))) else some (x_law_state_0, z5.2.2.2.1, z5.2.2.2.2)) >>= (fun (z14 : ((List Int) × (List Int) × (List Bool))) => some (x_law_upto, x_law_gone, z14.1, z14.2.1, z14.2.2)))))))))))) pieces ((0 : Int), (0 : Int), pr, ow, ml) = some ((pieces.foldl (usedF W C mk.f_lone ow) (0, 0, pr, ml)).1, (pieces.foldl (usedF W C mk.f_lone ow) (0, 0, pr, ml)).2.1, (pieces.foldl (usedF W C mk.f_lone ow) (0, 0, pr, ml)).2.2.1, ow, (pieces.foldl (usedF W C mk.f_lone ow) (0, 0, pr, ml)).2.2.2) := by
  obtain ⟨z, e, h1, _, _⟩ := loopN_ind (as := pieces) (s0 := ((0 : Int), (0 : Int), pr, ow, ml)) (f := (fun (z5 : (Int × Int × (List Int) × (List Int) × (List Bool))) (x_law_piece : Int) => (((atO z5.2.2.1 x_law_piece) >>= fun v7 => some (z5.1 + v7)) >>= fun x_law_upto => (let x_law_part : Int := (0 : Int); ((if (decide (W > (0 : Int))) = true then ((((mulO C x_law_upto) >>= fun v20 => (divO v20 W)) >>= fun v21 => some (v21 - z5.2.1)) >>= fun x_law_part => some x_law_part) else some x_law_part) >>= (fun (z8 : Int) => (let x_law_gone : Int := (z5.2.1 + z8); (((atO z5.2.2.1 x_law_piece) >>= fun v9 => some (v9 - z8)) >>= fun v17 => (setO z5.2.2.1 x_law_piece v17 >>= fun x_law_state_0 => ((if (decide (z8 > (0 : Int))) = true then (((((lenDO d) >>= fun v10 => some (v10 - (1 : Int))) >>= fun v11 => (atDO d v11)) >>= fun v12 => (atDO v12 (5 : Int))) >>= fun v13 => (asBool v13)) else some false) >>= fun v16 => ((if v16 = true then ((atO z5.2.2.2.1 x_law_piece) >>= fun v15 => (setO z5.2.2.2.2 v15 true >>= fun x_law_state_2 => some (x_law_state_0, z5.2.2.2.1, x_law_state_2))) else some (x_law_state_0, z5.2.2.2.1, z5.2.2.2.2)) >>= (fun (z14 : ((List Int) × (List Int) × (List Bool))) => some (x_law_upto, x_law_gone, z14.1, z14.2.1, z14.2.2))))))))))))) (fun pre z => z = ((pre.foldl (usedF W C mk.f_lone ow) (0, 0, pr, ml)).1, (pre.foldl (usedF W C mk.f_lone ow) (0, 0, pr, ml)).2.1, (pre.foldl (usedF W C mk.f_lone ow) (0, 0, pr, ml)).2.2.1, ow, (pre.foldl (usedF W C mk.f_lone ow) (0, 0, pr, ml)).2.2.2) ∧ (pre.foldl (usedF W C mk.f_lone ow) (0, 0, pr, ml)).2.2.1.length = pr.length ∧ (pre.foldl (usedF W C mk.f_lone ow) (0, 0, pr, ml)).2.2.2.length = L) ⟨rfl, rfl, hml⟩ (fun pre p post z e ⟨z1, z2, z3⟩ => by
    subst z1
    obtain ⟨p0, p1⟩ := hin p (by rw [e]; simp)
    rw [List.foldl_append, List.foldl_cons, List.foldl_nil]
    generalize pre.foldl (usedF W C mk.f_lone ow) (0, 0, pr, ml) = a at z2 z3
    obtain ⟨u, gn, q, m⟩ := a
    dsimp only at z2 z3 ⊢
    have hat : atO q p = some (q.getD p.toNat 0) := at_getD p0 (by omega)
    have how : atO ow p = some (ow.getD p.toNat 0) := at_getD p0 (by omega)
    have hom := ho (ow.getD p.toNat 0) (by
      rw [List.getD_eq_getElem?_getD, List.getElem?_eq_getElem (show p.toNat < ow.length by omega)]
      exact List.getElem_mem _)
    rw [hat, bindP, bindP]
    have hpart : (if (decide (W > (0 : Int))) = true then ((((mulO C (u + q.getD p.toNat 0)) >>= fun v20 => (divO v20 W)) >>= fun v21 => some (v21 - gn)) >>= fun x_law_part => some x_law_part) else some (0 : Int)) = some (if decide (W > 0) = true then C * (u + q.getD p.toNat 0) / W - gn else 0) := by
      split
      · rename_i hw
        have hw := of_decide_eq_true hw
        rw [mulO_l (by omega) (by omega), bindP, divO_ok (by omega) hW, bindP, bindP]
      · rfl
    rw [hpart, bindP, bindP]
    have hu : usedF W C mk.f_lone ow (u, gn, q, m) p = (u + q.getD p.toNat 0, gn + (if decide (W > 0) = true then C * (u + q.getD p.toNat 0) / W - gn else 0), q.set p.toNat (q.getD p.toNat 0 - (if decide (W > 0) = true then C * (u + q.getD p.toNat 0) / W - gn else 0)), if (decide ((if decide (W > 0) = true then C * (u + q.getD p.toNat 0) / W - gn else 0) > 0) && mk.f_lone) = true then m.set (ow.getD p.toNat 0).toNat true else m) := rfl
    rw [hu]
    generalize (if decide (W > 0) = true then C * (u + q.getD p.toNat 0) / W - gn else 0) = part
    rw [bindP, setO_ok p0 (by omega), bindP]
    have hl5 : (if (decide (part > (0 : Int))) = true then (((((lenDO d) >>= fun v10 => some (v10 - (1 : Int))) >>= fun v11 => (atDO d v11)) >>= fun v12 => (atDO v12 (5 : Int))) >>= fun v13 => (asBool v13)) else some false) = some (decide (part > 0) && mk.f_lone) := by
      rw [hd, atD_last fr _ hfr, bindP, mkD_at5, bindP, asBool_ok]
      cases decide (part > 0) <;> rfl
    rw [hl5, bindP]
    cases hc : (decide (part > 0) && mk.f_lone) with
    | true =>
      rw [if_pos rfl, if_pos rfl, how, bindP, setO_ok hom.1 (by rw [z3]; exact hom.2), bindP, bindP]
      exact ⟨_, rfl, rfl, by rw [List.length_set]; exact z2, by rw [List.length_set]; exact z3⟩
    | false =>
      rw [if_neg Bool.false_ne_true, if_neg Bool.false_ne_true, bindP]
      exact ⟨_, rfl, rfl, by rw [List.length_set]; exact z2, z3⟩)
  rw [e, h1]
theorem used_ok {d : PyData} {v : VoucherD} (h : Told d v) (hf : VFit v) {mk : MarksD} (hm : v.f_marks = some mk) {pieces pr ow : List Int} {ml : List Bool} {L : Nat} (hin : InR pieces pr.length) (hpr : PrOk pr) (hol : ow.length = pr.length) (ho : ∀ o ∈ ow, 0 ≤ o ∧ o < L) (hml : ml.length = L) (hpl : pieces.length ≤ 60) :
    M.law_used d pieces (mkSt pr ow ml) = some (mkSt (pieces.foldl (usedF (vals pr pieces).sum (cutV v (vals pr pieces).sum) mk.f_lone ow) (0, 0, pr, ml)).2.2.1 ow (pieces.foldl (usedF (vals pr pieces).sum (cutV v (vals pr pieces).sum) mk.f_lone ow) (0, 0, pr, ml)).2.2.2) := by
  have hvp := hpr.vals (g := pieces) hpl
  have hW := hvp.sum
  have hcut : 0 ≤ cutV v (vals pr pieces).sum ∧ cutV v (vals pr pieces).sum ≤ (vals pr pieces).sum := by
    cases v with
    | c_Off o => have : 0 ≤ o.f_amount := hf; unfold cutV; dsimp only; omega
    | c_Share o =>
      have hf : 0 ≤ o.f_share ∧ o.f_share ≤ 1000 := hf
      obtain ⟨_, a, b⟩ := share_cut hvp hf.1 hf.2
      exact ⟨a, b⟩
    | c_Carriage o => exact ⟨Int.le_refl _, hW.1⟩
  unfold M.law_used
  have e0 : lcM (fun (x_law_piece : Int) => (atO (mkSt pr ow ml).s.h x_law_piece)) pieces = some (vals pr pieces) := vals_ok hin
  rw [e0, bindP, bindP]
  dsimp only
  obtain ⟨mk', hm', fr, hd, hfr⟩ := lasts h
  rw [hm] at hm'
  cases hm'
  have hloop := used_loop (W := (vals pr pieces).sum) (C := cutV v (vals pr pieces).sum) hd hfr hin hpr hol ho hml (by omega) hcut.1 (by omega)
  cases h with
  | off a m =>
    rw [atD_t (x := .str "off") rfl, bindP, strD, bindP, if_pos (by decide), atD_t (x := .int a) rfl, bindP, asInt_ok, bindP, bindP, bindP]
    exact (congrArg (fun o => o >>= _) hloop).trans rfl
  | share a m =>
    have hf : 0 ≤ a ∧ a ≤ 1000 := hf
    rw [atD_t (x := .str "share") rfl, bindP, strD, bindP, if_neg (by decide), bindP, strD, bindP, if_pos (by decide), atD_t (x := .int a) rfl, bindP, asInt_ok, bindP, (share_cut hvp hf.1 hf.2).1, bindP, bindP, bindP, bindP]
    exact (congrArg (fun o => o >>= _) hloop).trans rfl
  | carriage m =>
    rw [atD_t (x := .str "carriage") rfl, bindP, strD, bindP, if_neg (by decide), bindP, strD, bindP, if_neg (by decide), bindP, bindP]
    exact (congrArg (fun o => o >>= _) hloop).trans rfl
end
end Law
namespace Law
variable [T.TabsC]
open PySem T L2 PySem.W
/-! the law's step is the program's -/
theorem used_zip {W C : Int} {lone : Bool} {ow pr : List Int} : ∀ (g : List Int) (acc : Int) (q : List Int) (m : List Bool), g.Nodup → (∀ p ∈ g, 0 ≤ p ∧ p < pr.length) → (∀ p ∈ g, q.getD p.toNat 0 = pr.getD p.toNat 0) → (W = 0 ∨ 0 < W) →
    g.foldl (usedF W C lone ow) (acc, (if decide (W > 0) = true then C * acc / W else 0), q, m) = (acc + (vals pr g).sum, (if decide (W > 0) = true then C * (acc + (vals pr g).sum) / W else 0), (zipL g (parts C W acc (vals pr g))).foldl (fun q t => q.set t.x0.toNat (pr.getD t.x0.toNat 0 - t.x1)) q, (zipL g (parts C W acc (vals pr g))).foldl (fun m t => if (decide (t.x1 > 0) && lone) = true then m.set (ow.getD t.x0.toNat 0).toNat true else m) m)
  | [], acc, q, m, _, _, _, _ => by
    show (acc, _, q, m) = (acc + 0, _, q, m)
    have h0 : acc + (vals pr []).sum = acc := Int.add_zero acc
    rw [Int.add_zero, h0]
  | p :: g, acc, q, m, nd, hi, hq, hW => by
    obtain ⟨nd1, nd2⟩ := List.nodup_cons.mp nd
    have hp := hq p List.mem_cons_self
    have hpart : (if decide (W > 0) = true then C * (acc + pr.getD p.toNat 0) / W - (if decide (W > 0) = true then C * acc / W else 0) else 0) = C * (acc + pr.getD p.toNat 0) / W - C * acc / W := by
      rcases hW with h | h
      · subst h
        rw [if_neg (by decide), Int.ediv_zero, Int.ediv_zero]; rfl
      · rw [if_pos (decide_eq_true h), if_pos (decide_eq_true h)]
    have hgone : (if decide (W > 0) = true then C * acc / W else 0) + (C * (acc + pr.getD p.toNat 0) / W - C * acc / W) = (if decide (W > 0) = true then C * (acc + pr.getD p.toNat 0) / W else 0) := by
      rcases hW with h | h
      · subst h
        rw [if_neg (by decide), if_neg (by decide), Int.ediv_zero, Int.ediv_zero]; rfl
      · rw [if_pos (decide_eq_true h), if_pos (decide_eq_true h)]; omega
    rw [List.foldl_cons]
    have hu : usedF W C lone ow (acc, (if decide (W > 0) = true then C * acc / W else 0), q, m) p = (acc + pr.getD p.toNat 0, (if decide (W > 0) = true then C * (acc + pr.getD p.toNat 0) / W else 0), q.set p.toNat (pr.getD p.toNat 0 - (C * (acc + pr.getD p.toNat 0) / W - C * acc / W)), if (decide (C * (acc + pr.getD p.toNat 0) / W - C * acc / W > 0) && lone) = true then m.set (ow.getD p.toNat 0).toNat true else m) := by
      unfold usedF
      dsimp only
      rw [hp, hpart, hgone]
    rw [hu, used_zip g (acc + pr.getD p.toNat 0) _ _ nd2 (fun x hx => hi x (List.mem_cons_of_mem _ hx)) (fun x hx => ?_) hW]
    · have hs : acc + (vals pr (p :: g)).sum = acc + pr.getD p.toNat 0 + (vals pr g).sum := by
        show acc + (pr.getD p.toNat 0 :: vals pr g).sum = _
        rw [List.sum_cons]; omega
      rw [hs]
      rfl
    · have hne : p.toNat ≠ x.toNat := fun z => by
        have h1 := hi p List.mem_cons_self
        have h2 := hi x (List.mem_cons_of_mem _ hx)
        have : p = x := by omega
        exact nd1 (this ▸ hx)
      rw [List.getD_eq_getElem?_getD, List.getElem?_set_ne hne, ← List.getD_eq_getElem?_getD]
      exact hq x (List.mem_cons_of_mem _ hx)
theorem set_get {α : Type} {f : α → Nat} {h : α → Int} : ∀ (zs : List α) (q : List Int) (k : Nat), (zs.foldl (fun q t => q.set (f t) (h t)) q)[k]? = q[k]?.map fun x => (zs.foldl (fun y t => if f t = k then h t else y) x)
  | [], q, k => by cases e : q[k]? <;> rw [List.foldl_nil, e] <;> rfl
  | t :: zs, q, k => by
    rw [List.foldl_cons, set_get zs (q.set (f t) (h t)) k]
    by_cases e : f t = k
    · subst e
      cases e2 : q[f t]? with
      | none =>
        have : q.length ≤ f t := List.getElem?_eq_none_iff.mp e2
        rw [List.getElem?_eq_none_iff.mpr (by rw [List.length_set]; exact this)]; rfl
      | some x =>
        rw [List.getElem?_set_self (List.getElem?_eq_some_iff.mp e2).1]
        show some _ = some ((t :: zs).foldl (fun y t_1 => if f t_1 = f t then h t_1 else y) x)
        rw [List.foldl_cons, if_pos rfl]
    · rw [List.getElem?_set_ne e]
      cases q[k]? with
      | none => rfl
      | some x =>
        show some _ = some ((t :: zs).foldl (fun y t_1 => if f t_1 = k then h t_1 else y) x)
        rw [List.foldl_cons, if_neg e]
theorem mark_get {α : Type} {f : α → Nat} {c : α → Bool} : ∀ (zs : List α) (m : List Bool) (k : Nat), (zs.foldl (fun m t => if c t = true then m.set (f t) true else m) m)[k]? = m[k]?.map fun x => x || zs.any fun t => c t && decide (f t = k)
  | [], m, k => by cases e : m[k]? <;> rw [List.foldl_nil, e] <;> simp
  | t :: zs, m, k => by
    rw [List.foldl_cons, mark_get zs _ k]
    cases hc : c t with
    | false =>
      rw [if_neg Bool.false_ne_true]
      cases m[k]? with
      | none => rfl
      | some x => simp [hc]
    | true =>
      rw [if_pos rfl]
      by_cases e : f t = k
      · subst e
        cases e2 : m[f t]? with
        | none =>
          rw [List.getElem?_eq_none_iff.mpr (by rw [List.length_set]; exact List.getElem?_eq_none_iff.mp e2)]; rfl
        | some x =>
          rw [List.getElem?_set_self (List.getElem?_eq_some_iff.mp e2).1]
          simp [hc]
      · rw [List.getElem?_set_ne e]
        cases m[k]? with
        | none => rfl
        | some x => simp [hc, e]
end Law
namespace Law
variable [T.TabsC]
open PySem T L2 PySem.W
/-! the cut exactly; the standing behind, by the law and by the program -/
theorem parts_zero (W : Int) : ∀ (acc : Int) (ws : List Int), parts 0 W acc ws = List.replicate ws.length 0
  | _, [] => rfl
  | acc, w :: ws => by
    show (0 * (acc + w) / W - 0 * acc / W) :: parts 0 W (acc + w) ws = _
    rw [parts_zero W (acc + w) ws, Int.zero_mul, Int.zero_mul, Int.sub_self]; rfl
def plainV : VoucherD → Prop
  | .c_Share o => o.f_by_line = false
  | _ => True
def feeV (v : VoucherD) (c : Int) : Int := match v with
  | .c_Carriage _ => c
  | _ => 0
section
variable {ps : List (Option Int)} {b : BasketD} {st : StandingD}
theorem cuts3_eq (v : VoucherD) (hf : VFit v) (hp : plainV v) {mk : MarksD} (hm : v.f_marks = some mk) (hk : mk.f_most = none) (w : Wf ps) (hps : ps.length ≤ 20) (hb : BkOk ps.length b) (hs : StOk b st) {pieces : List Int} (hpc : aboutS ps b.f_lines st.f_marked mk.f_kind mk.f_lone st.f_owners = pieces) :
    M.cuts v ps b st = some (T2.mk (toldS st.f_prices.length pieces (parts (cutV v (vals st.f_prices pieces).sum) (vals st.f_prices pieces).sum 0 (vals st.f_prices pieces))) (feeV v st.f_carriage)) := by
  have hin : InR (aboutS ps b.f_lines st.f_marked mk.f_kind mk.f_lone st.f_owners) st.f_owners.length := about_in
  have hln : (aboutS ps b.f_lines st.f_marked mk.f_kind mk.f_lone st.f_owners).length ≤ st.f_owners.length := about_len
  have ha := about_ok v hm w hps hb hs
  rw [hpc] at hin hln ha
  have hol : st.f_owners.length ≤ 60 := by rw [hs.ow]; exact hb.own
  have hpr := hs.pr hb
  have hin2 : InR pieces st.f_prices.length := by rw [hs.pl]; exact hin
  have hvp := hpr.vals (g := pieces) (by omega)
  unfold M.cuts
  rw [ha, bindP, vals_ok hin2, bindP, vals_ok hin, bindP]
  cases v with
  | c_Off o =>
    obtain ⟨e, u⟩ := off_wanted (o := o) (ow := vals st.f_owners pieces) hvp hf
    dsimp only
    rw [e, bindP]
    unfold M.Voucher_wanted_carriage
    exact cuts_tail0 hm hk hpr hin2
  | c_Share o =>
    have hp : o.f_by_line = false := hp
    have e : M.Share_wanted o (vals st.f_prices pieces) (vals st.f_owners pieces) = some (parts ((vals st.f_prices pieces).sum * o.f_share / 1000) (vals st.f_prices pieces).sum 0 (vals st.f_prices pieces)) := by
      unfold M.Share_wanted
      rw [hp, if_pos (by rfl)]
      obtain ⟨a, b, c⟩ := share_cut hvp hf.1 hf.2
      rw [a, bindP, bindP]
      exact (dealt_under hvp b c).1
    dsimp only
    rw [e, bindP]
    unfold M.Voucher_wanted_carriage_1
    exact cuts_tail0 hm hk hpr hin2
  | c_Carriage o =>
    have e : M.Voucher_wanted o (vals st.f_prices pieces) (vals st.f_owners pieces) = some (parts 0 (vals st.f_prices pieces).sum 0 (vals st.f_prices pieces)) := by
      unfold M.Voucher_wanted
      rw [parts_zero]
      exact rep0_ok hvp
    dsimp only
    rw [e, bindP]
    unfold M.Carriage_wanted_carriage
    exact cuts_tail0 hm hk hpr hin2
end
theorem toldS_len (n : Nat) (g w : List Int) : (toldS n g w).length = n := by
  unfold toldS
  rw [setAll_len, List.length_replicate]
/-! the fold of settings at a place -/
def lastAt (zs : List (T2 Int Int)) (k : Nat) (y : Int) : Int := zs.foldl (fun y t => if t.x0.toNat = k then t.x1 else y) y
theorem last_no {k : Nat} : ∀ {zs : List (T2 Int Int)} {y : Int}, (∀ t ∈ zs, t.x0.toNat ≠ k) → lastAt zs k y = y
  | [], _, _ => rfl
  | t :: zs, y, h => by
    unfold lastAt
    rw [List.foldl_cons, if_neg (h t List.mem_cons_self)]
    exact last_no (zs := zs) fun x hx => h x (List.mem_cons_of_mem _ hx)
theorem last_some {k : Nat} : ∀ {zs : List (T2 Int Int)} {y : Int}, lastAt zs k y = y ∨ ∃ t ∈ zs, t.x0.toNat = k ∧ t.x1 = lastAt zs k y
  | [], _ => .inl rfl
  | t :: zs, y => by
    have e : lastAt (t :: zs) k y = lastAt zs k (if t.x0.toNat = k then t.x1 else y) := rfl
    rw [e]
    rcases last_some (k := k) (zs := zs) (y := if t.x0.toNat = k then t.x1 else y) with h | ⟨x, hx, h⟩
    · rw [h]
      by_cases hk : t.x0.toNat = k
      · rw [if_pos hk]; exact .inr ⟨t, List.mem_cons_self, hk, rfl⟩
      · rw [if_neg hk]; exact .inl rfl
    · exact .inr ⟨x, List.mem_cons_of_mem _ hx, h⟩
theorem last_nodup : ∀ {zs : List (T2 Int Int)} {y : Int} {t : T2 Int Int}, (zs.map fun t => t.x0.toNat).Nodup → t ∈ zs → lastAt zs t.x0.toNat y = t.x1
  | a :: zs, y, t, nd, ht => by
    obtain ⟨n1, n2⟩ := List.nodup_cons.mp nd
    have e : ∀ k, lastAt (a :: zs) k y = lastAt zs k (if a.x0.toNat = k then a.x1 else y) := fun _ => rfl
    rw [e]
    rcases List.mem_cons.mp ht with q | q
    · subst q
      rw [if_pos rfl]
      exact last_no fun x hx z => n1 (List.mem_map.mpr ⟨x, hx, z⟩)
    · exact last_nodup n2 q
theorem last_diff (pr : List Int) {k : Nat} : ∀ (zs : List (T2 Int Int)) (y : Int), zs.foldl (fun y t => if t.x0.toNat = k then pr.getD t.x0.toNat 0 - t.x1 else y) (pr.getD k 0 - y) = pr.getD k 0 - lastAt zs k y
  | [], _ => rfl
  | t :: zs, y => by
    have e : lastAt (t :: zs) k y = lastAt zs k (if t.x0.toNat = k then t.x1 else y) := rfl
    rw [List.foldl_cons, e, ← last_diff pr zs]
    by_cases hk : t.x0.toNat = k
    · rw [if_pos hk, if_pos hk, hk]
    · rw [if_neg hk, if_neg hk]
theorem told_get {n k : Nat} (g w : List Int) (h : k < n) : (toldS n g w).getD k 0 = lastAt (zipL g w) k 0 := by
  have e : (toldS n g w)[k]? = some (lastAt (zipL g w) k 0) := by
    unfold toldS setAll
    rw [set_get (f := fun t : T2 Int Int => t.x0.toNat) (h := fun t : T2 Int Int => t.x1), List.getElem?_replicate, if_pos h]
    rfl
  rw [List.getD_eq_getElem?_getD, e]; rfl
theorem left_fold (pr g w : List Int) : leftP pr (toldS pr.length g w) = (zipL g w).foldl (fun q t => q.set t.x0.toNat (pr.getD t.x0.toNat 0 - t.x1)) pr := by
  refine List.ext_getElem? fun k => ?_
  rw [set_get (f := fun t : T2 Int Int => t.x0.toNat) (h := fun t : T2 Int Int => pr.getD t.x0.toNat 0 - t.x1)]
  unfold leftP
  rw [List.getElem?_map, toldS_len]
  by_cases hk : k < pr.length
  · rw [rng_get hk, List.getElem?_eq_getElem hk]
    show some (pr.getD ((0 : Int) + (k : Int)).toNat 0 - (toldS pr.length g w).getD ((0 : Int) + (k : Int)).toNat 0) = some _
    rw [show ((0 : Int) + (k : Int)).toNat = k by omega, told_get _ _ hk, ← last_diff, Int.sub_zero]
    have : pr.getD k 0 = pr[k] := by rw [List.getD_eq_getElem?_getD, List.getElem?_eq_getElem hk]; rfl
    rw [this]
  · rw [List.getElem?_eq_none (by rw [rng_len]; omega), List.getElem?_eq_none (by omega)]; rfl
theorem fold_id {α β : Type} {f : β → α → β} {b : β} : ∀ {as : List α}, (∀ a ∈ as, f b a = b) → as.foldl f b = b
  | [], _ => rfl
  | a :: as, h => by
    rw [List.foldl_cons, h a List.mem_cons_self]
    exact fold_id fun x hx => h x (List.mem_cons_of_mem _ hx)
theorem mark_fold (lone : Bool) {n : Nat} {g w ow : List Int} {m : List Bool} (hin : InR g n) (nd : ((zipL g w).map fun t => t.x0.toNat).Nodup) : markS lone (toldS n g w) ow m = (zipL g w).foldl (fun m t => if (decide (t.x1 > 0) && lone) = true then m.set (ow.getD t.x0.toNat 0).toNat true else m) m := by
  unfold markS
  cases lone with
  | false =>
    rw [if_neg Bool.false_ne_true]
    exact (fold_id fun t _ => by rw [Bool.and_false, if_neg Bool.false_ne_true]).symm
  | true =>
    rw [if_pos rfl]
    refine List.ext_getElem? fun j => ?_
    have e1 := mark_get (f := fun k : Int => (ow.getD k.toNat 0).toNat) (c := fun k : Int => decide ((toldS n g w).getD k.toNat 0 > 0)) (rng 0 (toldS n g w).length) m j
    have e2 := mark_get (f := fun t : T2 Int Int => (ow.getD t.x0.toNat 0).toNat) (c := fun t : T2 Int Int => decide (t.x1 > 0) && true) (zipL g w) m j
    refine e1.trans (Eq.trans ?_ e2.symm)
    refine congrArg (fun c : Bool => m[j]?.map fun x => x || c) ?_
    rw [Bool.eq_iff_iff, List.any_eq_true, List.any_eq_true]
    constructor
    · rintro ⟨k, hk, h⟩
      have hk := rng_mem hk
      rw [toldS_len] at hk
      rw [Bool.and_eq_true, decide_eq_true_eq, decide_eq_true_eq, told_get _ _ (by omega)] at h
      rcases last_some (k := k.toNat) (zs := zipL g w) (y := 0) with q | ⟨t, ht, q1, q2⟩
      · omega
      · refine ⟨t, ht, ?_⟩
        rw [Bool.and_eq_true, decide_eq_true_eq, Bool.and_true, decide_eq_true_eq, q1, q2]
        exact h
    · rintro ⟨t, ht, h⟩
      rw [Bool.and_eq_true, decide_eq_true_eq, Bool.and_true, decide_eq_true_eq] at h
      have hi := zip_in hin t ht
      refine ⟨t.x0, ?_, ?_⟩
      · rw [toldS_len]
        exact List.mem_iff_getElem?.mpr ⟨t.x0.toNat, by rw [rng_get (by omega)]; congr 1; omega⟩
      · rw [Bool.and_eq_true, decide_eq_true_eq, decide_eq_true_eq, told_get _ _ (by omega), last_nodup nd ht]
        exact h
theorem nodup_nat {g : List Int} {n : Nat} (hin : InR g n) (nd : g.Nodup) : (g.map Int.toNat).Nodup := by
  unfold List.Nodup at *
  rw [List.pairwise_map]
  refine List.Pairwise.imp_of_mem (fun {a b} ha hb h z => h ?_) nd
  have := hin a ha
  have := hin b hb
  omega
theorem zip_nat {g w : List Int} (h : w.length = g.length) : ((zipL g w).map fun t => t.x0.toNat) = g.map Int.toNat := by
  unfold zipL
  rw [List.map_map]
  have : (List.zip g w).map (fun p => p.1.toNat) = ((List.zip g w).map Prod.fst).map Int.toNat := by rw [List.map_map]; rfl
  refine Eq.trans this ?_
  rw [List.map_fst_zip (by omega)]
theorem rng_nodup (n : Nat) : (rng 0 n).Nodup := by
  unfold rng List.Nodup
  rw [List.pairwise_map]
  refine List.Pairwise.imp (fun {a b} h z => h ?_) (List.nodup_range (n := n))
  omega
theorem about_nodup {ps : List (Option Int)} {ls : List LineD} {mk : List Bool} {kind : Option Int} {lone : Bool} {ow : List Int} : (aboutS ps ls mk kind lone ow).Nodup := List.Pairwise.filter _ (rng_nodup _)
end Law
namespace Law
variable [T.TabsC]
open PySem T L2 PySem.W
section
variable {ps : List (Option Int)} {b : BasketD} {st : StandingD}
/-- one voucher used: the law's prices and marks are the program's -/
theorem step3 {d : PyData} {v : VoucherD} (h : Told d v) (hf : VFit v) (hp : plainV v) {mk : MarksD} (hm : v.f_marks = some mk) (hk : mk.f_most = none) (w : Wf ps) (hps : ps.length ≤ 20) (hb : BkOk ps.length b) (hs : StOk b st) :
    ∃ st', M.after v ps b st = some st' ∧ StOk b st' ∧ M.law_used d (aboutS ps b.f_lines st.f_marked mk.f_kind mk.f_lone st.f_owners) (mkSt st.f_prices st.f_owners st.f_marked) = some (mkSt st'.f_prices st'.f_owners st'.f_marked) := by
  have hc := cutsV_ok v hm ⟨fun m z => by rw [hk] at z; cases z⟩ hf w hps hb hs
  obtain ⟨st', e1, hs'⟩ := after_ok v hm hb hs hc
  have hcx := cuts3_eq v hf hp hm hk w hps hb hs rfl
  have hax := after_eq v hm hb hs hcx (toldS_len _ _ _)
  rw [e1] at hax
  have hin : InR (aboutS ps b.f_lines st.f_marked mk.f_kind mk.f_lone st.f_owners) st.f_owners.length := about_in
  have hln : (aboutS ps b.f_lines st.f_marked mk.f_kind mk.f_lone st.f_owners).length ≤ st.f_owners.length := about_len
  have hnd : (aboutS ps b.f_lines st.f_marked mk.f_kind mk.f_lone st.f_owners).Nodup := about_nodup
  have hol : st.f_owners.length ≤ 60 := by rw [hs.ow]; exact hb.own
  refine ⟨st', e1, hs', ?_⟩
  rw [Option.some.inj hax]
  generalize aboutS ps b.f_lines st.f_marked mk.f_kind mk.f_lone st.f_owners = pieces at hin hln hnd
  have hpr := hs.pr hb
  have hin2 : InR pieces st.f_prices.length := by rw [hs.pl]; exact hin
  have hvp := hpr.vals (g := pieces) (by omega)
  rw [used_ok h hf hm hin2 hpr hs.pl.symm hs.oin hs.ml (by omega)]
  have hW := hvp.sum
  generalize hcv : cutV v (vals st.f_prices pieces).sum = C
  have hz := used_zip (W := (vals st.f_prices pieces).sum) (C := C) (lone := mk.f_lone) (ow := st.f_owners) (pr := st.f_prices) pieces 0 st.f_prices st.f_marked hnd hin2 (fun _ _ => rfl) (by omega)
  have h0 : (if decide ((vals st.f_prices pieces).sum > 0) = true then C * 0 / (vals st.f_prices pieces).sum else 0) = (0 : Int) := by
    split
    · rw [Int.mul_zero, Int.zero_ediv]
    · rfl
  rw [h0] at hz
  rw [hz]
  dsimp only
  have hpl : (parts C (vals st.f_prices pieces).sum 0 (vals st.f_prices pieces)).length = pieces.length := by rw [parts_len, vals_len]
  rw [left_fold, mark_fold mk.f_lone hin2 (by rw [zip_nat hpl]; exact nodup_nat hin2 hnd)]
end
/-! the word -/
def ruleF (before : List Int) (v : Int) (z : Option Str) (r : T3 Str Int Int) : Option Str :=
  (let z6 : (Option Str) := if ((decide (r.x1 = v)) && (decide (r.x2 ∈ before))) = true then (let x_law_word : (Option Str) := (some r.x0 : (Option Str)); x_law_word) else z; (let z7 : (Option Str) := if ((decide (r.x0 = ("never" : Str))) && ((decide (r.x2 = v)) && (decide (r.x1 ∈ before)))) = true then (let x_law_word : (Option Str) := (some ("never" : Str) : (Option Str)); x_law_word) else z6; z7))
def RulesOk (rs : List (T3 Str Int Int)) : Prop := rs = [] ∨ ∃ x a c, rs = [T3.mk x a c] ∧ (x = "never" ∨ x = "ahead")
theorem rules_word {rs : List (T3 Str Int Int)} (h : RulesOk rs) (before : List Int) (v : Int) (z : Option Str) :
    (if rs.any (neverC before v) = true then some ("never" : Str) else if rs.any (lateC before v) = true then some "ahead" else z) = rs.foldl (ruleF before v) z := by
  rcases h with rfl | ⟨x, a, c, rfl, hx⟩
  · rfl
  · rw [List.foldl_cons, List.foldl_nil, List.any_cons, List.any_nil, Bool.or_false, List.any_cons, List.any_nil, Bool.or_false]
    unfold ruleF neverC lateC
    dsimp only
    rcases hx with rfl | rfl
    · rw [decide_eq_true rfl, decide_eq_false (show ¬ (("never" : Str) = "ahead") by decide), Bool.true_and, Bool.true_and, Bool.false_and, if_neg (c := false = true) Bool.false_ne_true]
      generalize (decide (a = v) && decide (c ∈ before)) = p
      generalize (decide (c = v) && decide (a ∈ before)) = q
      cases p <;> cases q <;> rfl
    · rw [decide_eq_true rfl, decide_eq_false (show ¬ (("ahead" : Str) = "never") by decide), Bool.true_and, Bool.false_and, Bool.false_and, if_neg (c := false = true) Bool.false_ne_true]
theorem rules_only {rs : List (T3 Str Int Int)} (h : RulesOk rs) (o : List Int) : rs.find? (onlyC o) = none := by
  rcases h with rfl | ⟨x, a, c, rfl, hx⟩
  · rfl
  · have : onlyC o (T3.mk x a c) = false := by
      unfold onlyC
      dsimp only
      rcases hx with rfl | rfl
      · rw [decide_eq_false (show ¬ (("never" : Str) = "only") by decide), Bool.false_and]
      · rw [decide_eq_false (show ¬ (("ahead" : Str) = "only") by decide), Bool.false_and]
    rw [List.find?_cons, this]; rfl
theorem loopC_two {α γ δ ρ : Type} {f : γ → α → Option (Ctl γ γ ρ)} {h : δ → α → Option (Ctl δ δ ρ)} {as : List α} (R : List α → γ → δ → Prop)
    (hs : ∀ pre a post s t, as = pre ++ a :: post → R pre s t → (∃ r, f s a = some (.rt r) ∧ h t a = some (.rt r)) ∨ ∃ s' t', f s a = some (.nx s') ∧ h t a = some (.nx t') ∧ R (pre ++ [a]) s' t') :
    ∀ (post pre : List α) (s : γ) (t : δ), as = pre ++ post → R pre s t → (∃ r, loopC f post s = some (.rt r) ∧ loopC h post t = some (.rt r)) ∨ ∃ s' t', loopC f post s = some (.nx s') ∧ loopC h post t = some (.nx t') ∧ R as s' t'
  | [], pre, s, t, e, p => .inr ⟨s, t, rfl, rfl, by rw [List.append_nil] at e; rw [e]; exact p⟩
  | a :: post, pre, s, t, e, p => by
    rcases hs pre a post s t e p with ⟨r, e1, e2⟩ | ⟨s', t', e1, e2, p'⟩
    · left
      refine ⟨r, ?_, ?_⟩
      · unfold loopC; rw [e1]; rfl
      · unfold loopC; rw [e2]; rfl
    · have ih := loopC_two R hs post (pre ++ [a]) s' t' (by rw [List.append_assoc]; exact e) p'
      unfold loopC
      rw [e1, e2]
      exact ih
structure Fit3 (v : VoucherD) : Prop where
  m : ∃ mk, v.f_marks = some mk ∧ mk.f_most = none ∧ mk.f_once = false
  f : VFit v
  p : plainV v
theorem paired_get {α β : Type} {R : α → β → Prop} : ∀ {as : List α} {bs : List β}, Paired R as bs → ∀ {i : Nat} (h : i < as.length) (h2 : i < bs.length), R (as[i]) (bs[i])
  | _, _, .cons h _, 0, _, _ => h
  | _, _, .cons _ t, i + 1, h, h2 => paired_get t (by simpa using h) (by simpa using h2)
theorem enum_split {o : List Int} {pre post : List (T2 Int Int)} {t : T2 Int Int} (e : enumL o = pre ++ t :: post) : t.x0 = (pre.length : Int) ∧ o.take pre.length = pre.map (fun t => t.x1) ∧ pre.length < o.length := by
  have hl : (enumL o).length = pre.length + (post.length + 1) := by rw [e]; simp
  rw [enum_len'] at hl
  have hm : o = (pre ++ t :: post).map fun t => t.x1 := by rw [← e]; exact (List.map_id o ▸ enum_x1 (fun a : Int => a) o).symm
  refine ⟨?_, ?_, by omega⟩
  · have : (enumL o)[pre.length]? = some t := by rw [e, List.getElem?_append_right (Nat.le_refl _), Nat.sub_self]; rfl
    obtain ⟨a, _, rfl⟩ := enum_get this
    rfl
  · have h2 : o.take pre.length = ((pre ++ t :: post).map fun t => t.x1).take pre.length := congrArg (List.take pre.length) hm
    rw [h2, List.map_append]
    rw [show pre.length = (pre.map fun t : T2 Int Int => t.x1).length by rw [List.length_map], List.take_left]
abbrev WorldR := HR [("parents" : Str), ("vouchers" : Str), ("rules" : Str), ("basket" : Str)] (HC (List (Option Int)) (HC (List PyData) (HC (List (T3 Str Int Int)) (HC (T3 (List (T4 Int Int Int (Option Int))) Int Bool) HU))))
theorem due3_ok {ps : List (Option Int)} {ds : List PyData} {vs : List VoucherD} {rules : List (T3 Str Int Int)} {rs : List Row} {ca : Int} {mem : Bool} {bk : Str} (w : Wf ps) (hps : ps.length ≤ 20) (hb : BkOk ps.length ⟨rs.map lineB, ca, mem⟩) (hv : Paired Told ds vs) (hv2 : ∀ v ∈ vs, Fit3 v) (hr : RulesOk rules) {o : List Int} (ho : InR o vs.length) (hol : o.length ≤ 100) {n : Int} (hn : n = vs.length) :
    ∃ r, M.fault ⟨ps, vs, rules, bk⟩ ⟨rs.map lineB, ca, mem⟩ (List.replicate n.toNat 3) o = some r ∧ M.law_due (HR.mk (HC.mk ps (HC.mk ds (HC.mk rules (HC.mk (T3.mk rs ca mem) HU.mk)))) : WorldR) o = some r := by
  unfold M.fault M.law_due
  dsimp only
  have e0 := stand_ok ⟨rs.map lineB, ca, mem⟩ (by have := hb.len; omega) fun l hl => by have := hb.m l hl; omega
  obtain ⟨st0, e0', hs0⟩ := stand0_ok hb
  rw [e0'] at e0
  have e0 := Option.some.inj e0
  rw [e0', bindP, begun_ok hb, bindP]
  have ep : st0.f_prices = pricesOf (rs.map lineB) mem := by rw [e0]
  have eo : st0.f_owners = ownersOf (rs.map lineB) := by rw [e0]
  have em : st0.f_marked = rs.map fun _ => false := by rw [e0]; exact List.map_map
  have hdv := Paired.length hv
  have key := loopC_two (as := enumL o) (ρ := Option (T2 Int Str)) (f := (fun (z5 : (StandingD × (List Int))) (it6 : (T2 Int Int)) => (((M.word_of ⟨ps, vs, rules, bk⟩ ⟨rs.map lineB, ca, mem⟩ (List.replicate n.toNat 3) z5.2 it6.x1 z5.1) >>= fun x_word => (if x_word.isSome = true then (((x_word >>= fun v12 => some (T2.mk it6.x0 v12)) >>= fun v13 => some ((some v13 : (Option (T2 Int Str))))) >>= fun v14 => some (Ctl.rt v14)) else (((atO vs it6.x1) >>= fun v16 => M.after v16 ps ⟨rs.map lineB, ca, mem⟩ z5.1) >>= fun x_standing => (appO z5.2 it6.x1 >>= fun x_ahead => some (Ctl.nx (x_standing, x_ahead)))))) : Option (Ctl (StandingD × (List Int)) (StandingD × (List Int)) (Option (T2 Int Str))))))
    (h := (fun (z3 : ((List Int) × (List Int) × (List Bool))) (it4 : (T2 Int Int)) => (((atO ds it4.x1) >>= fun x_law_voucher_here => ((M.law_about x_law_voucher_here ps (T3.mk rs ca mem) (mkSt z3.1 z3.2.1 z3.2.2)) >>= fun x_law_pieces => ((M.law_hindrance x_law_voucher_here (T3.mk rs ca mem) x_law_pieces (mkSt z3.1 z3.2.1 z3.2.2)) >>= fun x_law_word => (let z8 : (Option Str) := rules.foldl (fun (z5 : (Option Str)) (x_law_rule : (T3 Str Int Int)) => ruleF (cutO o none (some it4.x0)) it4.x1 z5 x_law_rule) x_law_word; (let z9 : (Option Str) := if (decide (((((cutO o none (some it4.x0))).count it4.x1 : Nat) : Int) > (2 : Int))) = true then (let x_law_word : (Option Str) := (some ("held" : Str) : (Option Str)); x_law_word) else z8; (if z9.isSome = true then (((z9 >>= fun v15 => some (T2.mk it4.x0 v15)) >>= fun v16 => some ((some v16 : (Option (T2 Int Str))))) >>= fun v17 => some (Ctl.rt v17)) else ((M.law_used x_law_voucher_here x_law_pieces (mkSt z3.1 z3.2.1 z3.2.2)) >>= fun x_law_state => some (Ctl.nx (x_law_state.s.h, x_law_state.s.t.h, x_law_state.s.t.t.h))))))))) : Option (Ctl ((List Int) × (List Int) × (List Bool)) ((List Int) × (List Int) × (List Bool)) (Option (T2 Int Str))))))
    (fun pre (s : StandingD × List Int) (t : List Int × List Int × List Bool) => StOk ⟨rs.map lineB, ca, mem⟩ s.1 ∧ s.2 = pre.map (fun t => t.x1) ∧ t = (s.1.f_prices, s.1.f_owners, s.1.f_marked))
    (fun pre it post s t e ⟨h1, h2, h3⟩ => by
      subst h3
      obtain ⟨st, ah⟩ := s
      have h1 : StOk ⟨rs.map lineB, ca, mem⟩ st := h1
      have h2 : ah = pre.map (fun t => t.x1) := h2
      subst h2
      obtain ⟨q1, q2, q3⟩ := enum_split e
      have hit : it ∈ enumL o := by rw [e]; simp
      obtain ⟨v0, v1⟩ := ho _ (enum_mem hit)
      have hcut : cutO o none (some it.x0) = pre.map (fun t => t.x1) := by
        rw [cutO_to _ (by omega), q1, Int.toNat_natCast, q2]
      obtain ⟨i, hi⟩ : ∃ i : Nat, it.x1 = (i : Int) := ⟨it.x1.toNat, by omega⟩
      have hi1 : i < vs.length := by omega
      have hT : Told (ds[i]'(by omega)) (vs[i]) := paired_get hv (by omega) hi1
      have hF := hv2 _ (List.getElem_mem hi1)
      obtain ⟨mk, hm, hmo, hon⟩ := hF.m
      have ed : atO ds it.x1 = some (ds[i]'(by omega)) := by rw [hi]; exact atO_nat (List.getElem?_eq_getElem _)
      have ev : atO vs it.x1 = some (vs[i]) := by rw [hi]; exact atO_nat (List.getElem?_eq_getElem _)
      generalize ds[i]'(by omega) = d at hT ed
      generalize vs[i] = v at hT ev hm hF
      have hin : InR (aboutS ps (rs.map lineB) st.f_marked mk.f_kind mk.f_lone st.f_owners) st.f_prices.length := by rw [h1.pl]; exact about_in
      obtain ⟨st', ea, hs', eu⟩ := step3 hT hF.f hF.p hm hmo w hps hb h1
      have eu : M.law_used d (aboutS ps (rs.map lineB) st.f_marked mk.f_kind mk.f_lone st.f_owners) (mkSt st.f_prices st.f_owners st.f_marked) = some (mkSt st'.f_prices st'.f_owners st'.f_marked) := eu
      have hh := hind_ok v hm w hps hb h1
      have hlh := lhind_ok hT hm (rs := rs) (ca := ca) (mem := mem) hin st.f_owners st.f_marked
      have hla := labout_ok hT hm w hps hb h1 st.f_prices
      have hh : M.hindrance v ps ⟨rs.map lineB, ca, mem⟩ st = some (hindS mk ⟨rs.map lineB, ca, mem⟩ (aboutS ps (rs.map lineB) st.f_marked mk.f_kind mk.f_lone st.f_owners).length (vals st.f_prices (aboutS ps (rs.map lineB) st.f_marked mk.f_kind mk.f_lone st.f_owners)).sum) := hh
      dsimp only
      rw [ed, bindP, hla, bindP, hlh, bindP, hcut]
      have hw : M.word_of ⟨ps, vs, rules, bk⟩ ⟨rs.map lineB, ca, mem⟩ (List.replicate n.toNat 3) (pre.map fun t => t.x1) it.x1 st = some (if (decide (((((pre.map fun t => t.x1)).count it.x1 : Nat) : Int) > (2 : Int))) = true then some ("held" : Str) else rules.foldl (ruleF (pre.map fun t => t.x1) it.x1) (hindS mk ⟨rs.map lineB, ca, mem⟩ (aboutS ps (rs.map lineB) st.f_marked mk.f_kind mk.f_lone st.f_owners).length (vals st.f_prices (aboutS ps (rs.map lineB) st.f_marked mk.f_kind mk.f_lone st.f_owners)).sum)) := by
        unfold M.word_of
        have e3 : atO (List.replicate n.toNat (3 : Int)) it.x1 = some 3 := by
          rw [hi]
          exact atO_nat (by rw [List.getElem?_replicate, if_pos (by omega)])
        have hc : decide (((((pre.map fun t => t.x1)).count it.x1 : Nat) : Int) ≥ 3) = decide (((((pre.map fun t => t.x1)).count it.x1 : Nat) : Int) > (2 : Int)) := by
          rw [decide_eq_decide]; omega
        rw [ev, bindP, e3, bindP, bindP, hc]
        by_cases c1 : decide (((((pre.map fun t => t.x1)).count it.x1 : Nat) : Int) > (2 : Int)) = true
        · rw [if_pos c1, if_pos c1]
        · rw [if_neg c1, if_neg c1, hm, bindP, bindP, hon, if_neg Bool.false_ne_true, bindP, if_neg Bool.false_ne_true, never_eq, bindP, late_eq, hh, ← rules_word hr]
          split
          · rfl
          · rw [bindP]
            split <;> rfl
      rw [hw, bindP]
      generalize (if (decide (((((pre.map fun t => t.x1)).count it.x1 : Nat) : Int) > (2 : Int))) = true then some ("held" : Str) else rules.foldl (ruleF (pre.map fun t => t.x1) it.x1) (hindS mk ⟨rs.map lineB, ca, mem⟩ (aboutS ps (rs.map lineB) st.f_marked mk.f_kind mk.f_lone st.f_owners).length (vals st.f_prices (aboutS ps (rs.map lineB) st.f_marked mk.f_kind mk.f_lone st.f_owners)).sum)) = wd
      cases wd with
      | some x => exact .inl ⟨_, rfl, rfl⟩
      | none =>
        right
        rw [if_neg (by simp), ev, bindP, ea, bindP, appO_ok (by rw [List.length_map]; omega), bindP, if_neg (by simp), eu, bindP]
        exact ⟨_, _, rfl, rfl, hs', by rw [List.map_append]; rfl, rfl⟩) (enumL o) [] (st0, []) (pricesOf (rs.map lineB) mem, ownersOf (rs.map lineB), rs.map fun _ => false) rfl ⟨hs0, rfl, by rw [ep, eo, em]⟩
  rcases key with ⟨r, k1, k2⟩ | ⟨s', t', k1, k2, _⟩
  · refine ⟨r, ?_, ?_⟩
    · exact (congrArg (fun o => o >>= _) k1).trans rfl
    · exact (congrArg (fun o => o >>= _) k2).trans rfl
  · refine ⟨none, ?_, ?_⟩
    · refine (congrArg (fun o => o >>= _) k1).trans ?_
      show ((M.lacking ⟨ps, vs, rules, bk⟩ s'.2 >>= _) >>= _) = _
      rw [lack_eq2, rules_only hr, bindP, bindP, if_neg (by simp)]
    · exact (congrArg (fun o => o >>= _) k2).trans rfl
end Law
namespace Law
variable [T.TabsC]
open PySem T L2 PySem.W
theorem voucher3_ok (c : Int) {K : Int} (hK : 0 < K) (g : Bool) (total : Int) : ∃ d v, M.law_voucher c K g total = some d ∧ Told d v ∧ Fit3 v := by
  unfold M.law_voucher
  obtain ⟨d, ed, d0⟩ := mixed_ok c 13 (by decide) (by decide)
  obtain ⟨o, eo, o0⟩ := mixed_ok c 14 (by decide) (by decide)
  obtain ⟨k, ek, k0, _⟩ := coinsB_ok o g
  rw [ed, bindP, eo, bindP, ek]
  simp only [bindP]
  obtain ⟨nd, _, end_⟩ := pick_ok (xs := [0, 0, total, total + 1, total / 2, total - total / 3, k]) (i := d / 4 % 7) (by omega) (by show d / 4 % 7 < 7; omega)
  obtain ⟨kd, _, ekd⟩ := pick_ok (xs := [none, none, some (o / 3 % K)]) (i := o % 3) (by omega) (by show o % 3 < 3; omega)
  rw [end_, bindP, modO_ok hK]
  simp only [bindP]
  rw [ekd, bindP]
  split
  · obtain ⟨a, ea, a0, _⟩ := coinsB_ok (d / 28) g
    rw [ea]
    simp only [bindP]
    obtain ⟨x, hx, ex⟩ := pick_ok (xs := [1, a]) (i := d / 28 % 2) (by omega) (by show d / 28 % 2 < 2; omega)
    rw [ex, bindP, bindP]
    simp only [List.mem_cons, List.not_mem_nil, or_false] at hx
    exact ⟨_, _, rfl, .off x ⟨kd, min 1000000000000 nd, none, decide (o / 60 % 8 = 0), false, decide (o / 480 % 2 = 0)⟩, ⟨_, rfl, rfl, rfl⟩, by show 0 ≤ x; omega, trivial⟩
  split
  · obtain ⟨x, hx, ex⟩ := pick_ok (xs := [1, 1000, 1 + d / 84 % 1000]) (i := d / 28 % 3) (by omega) (by show d / 28 % 3 < 3; omega)
    rw [ex, bindP, bindP]
    simp only [List.mem_cons, List.not_mem_nil, or_false] at hx
    exact ⟨_, _, rfl, .share x ⟨kd, min 1000000000000 nd, none, decide (o / 60 % 8 = 0), false, decide (o / 480 % 2 = 0)⟩, ⟨_, rfl, rfl, rfl⟩, ⟨by show 0 ≤ x; omega, by show x ≤ 1000; omega⟩, rfl⟩
  · exact ⟨_, _, rfl, .carriage ⟨kd, min 1000000000000 nd, none, decide (o / 60 % 8 = 0), false, decide (o / 480 % 2 = 0)⟩, ⟨_, rfl, rfl, rfl⟩, trivial, trivial⟩
theorem paired_set {α β : Type} {R : α → β → Prop} : ∀ {as : List α} {bs : List β}, Paired R as bs → ∀ (i : Nat) {a : α} {b : β}, R a b → Paired R (as.set i a) (bs.set i b)
  | _, _, .nil, _, _, _, _ => .nil
  | _, _, .cons _ t, 0, _, _, h => .cons h t
  | _, _, .cons h t, i + 1, _, _, h2 => .cons h (paired_set t i h2)
theorem till_eq (a : List (Option Int)) (b : List VoucherD) (c : List (T3 Str Int Int)) (d : Str) : M.Till_init a b c d = ⟨a, b, c, d⟩ := by unfold M.Till_init; rfl
theorem okD_fault (r : Option (T2 Int Str)) : okD 24 (Datum.toD r) := by
  cases r with
  | none => exact trivial
  | some x =>
    refine okD_le (n := 2) ?_ (by decide)
    show [Datum.toD x.x0, Datum.toD x.x1].length ≤ 1000 ∧ ∀ y ∈ [Datum.toD x.x0, Datum.toD x.x1], okD 1 y
    refine ⟨Nat.le_of_ble_eq_true rfl, fun y hy => ?_⟩
    simp only [List.mem_cons, List.not_mem_nil, or_false] at hy
    rcases hy with rfl | rfl <;> exact trivial
theorem law_true (ns : List Int) (h : ns.length ≤ 63) : M.law ns = some true := by
  unfold M.law
  obtain ⟨c, ec⟩ := cell_ok ns 0 (by decide)
  obtain ⟨ps, ep, w, p0, p1⟩ := parentsB_ok c
  obtain ⟨c9, ec9⟩ := cell_ok ns 9 (by decide)
  obtain ⟨rs, ca, mem, eb, ebm, hb⟩ := basketB_ok c9 (K := ps.length) (by omega) (decide (c % 2 = 0))
  obtain ⟨r, er, r0⟩ := mixed_ok c 50 (by decide) (by decide)
  obtain ⟨n, hn, en⟩ := pick_ok (xs := [(1 : Int), 2, 3, 4, 2, 8]) (i := r % 6) (by omega) (by show r % 6 < 6; omega)
  have hn : 1 ≤ n ∧ n ≤ 8 := by
    simp only [List.mem_cons, List.not_mem_nil, or_false] at hn
    omega
  rw [ec, bindP, ep, bindP, bindP, bindP]
  dsimp only
  rw [ec9, bindP, eb, bindP, begun_ok hb, bindP, bindP, bindP]
  generalize ((mkSt (pricesOf (rs.map lineB) mem) (ownersOf (rs.map lineB)) (rs.map fun _ => false)).s.h).sum = total
  rw [er, bindP, bindP, en, bindP, rng1O_ok (by omega) (by omega), bindP]
  refine loopN_eq (as := rng 0 n.toNat) (fun (pre : List Int) (z : List (Option Int) × List PyData × List (T3 Str Int Int) × (T3 (List (T4 Int Int Int (Option Int))) Int Bool)) => z.1 = ps ∧ z.2.2.1 = [] ∧ z.2.2.2 = T3.mk rs ca mem ∧ z.2.1.length = pre.length ∧ ∃ vs, Paired Told z.2.1 vs ∧ ∀ v ∈ vs, Fit3 v) ⟨rfl, rfl, rfl, rfl, [], .nil, fun v hv => by cases hv⟩ (fun pre k post z e ⟨q1, q2, q3, l1, vs, hv, hf⟩ => ?_) fun z ⟨q1, q2, q3, l1, vs, hv, hf⟩ => ?_
  · obtain ⟨hk, hlt⟩ := rng_at e
    obtain ⟨cc, ecc⟩ := cell_ok ns (1 + k) (by omega)
    rw [ecc, bindP, bindP]
    obtain ⟨d, v, ev, hd, hfv⟩ := voucher3_ok (cc + 11 * k) (K := ps.length) (by omega) (decide (c % 2 = 0)) total
    rw [ev, bindP, appO_ok (by omega), bindP]
    refine ⟨_, rfl, q1, q2, q3, by simp [l1], vs ++ [v], T.paired_app hv (.cons hd .nil), fun x hx => ?_⟩
    rcases List.mem_append.mp hx with q | q
    · exact hf x q
    · rw [List.mem_singleton.mp q]; exact hfv
  · obtain ⟨z1, z2, z3, z4⟩ := z
    have q1 : z1 = ps := q1
    have q2 : z3 = [] := q2
    have q3 : z4 = T3.mk rs ca mem := q3
    have l1 : z2.length = (rng 0 n.toNat).length := l1
    have hv : Paired Told z2 vs := hv
    subst q1 q2 q3
    rw [rng_len] at l1
    obtain ⟨d, ed, d0⟩ := mixed_ok c 53 (by decide) (by decide)
    rw [ed, bindP]
    have hvl := Paired.length hv
    have hrule : ∃ rules, (if (decide ((d % (3 : Int)) = (0 : Int))) = true then (((atO (("never" : Str) :: (("ahead" : Str) :: ([] : (List Str)))) ((d / (3 : Int)) % (2 : Int))) >>= fun v33 => (modO (d / (6 : Int)) n) >>= fun v34 => (modO (d / (60 : Int)) n) >>= fun v35 => some (T3.mk v33 v34 v35)) >>= fun v36 => (appO ([] : List (T3 Str Int Int)) v36 >>= fun x_law_world_2 => some (z1, z2, x_law_world_2, T3.mk rs ca mem))) else some (z1, z2, ([] : List (T3 Str Int Int)), T3.mk rs ca mem)) = some (z1, z2, rules, T3.mk rs ca mem) ∧ RulesOk rules := by
      split
      · obtain ⟨x, hx, ex⟩ := pick_ok (xs := [("never" : Str), "ahead"]) (i := d / 3 % 2) (by omega) (by show d / 3 % 2 < 2; omega)
        rw [ex, bindP, modO_ok (by omega), bindP, modO_ok (by omega), bindP, bindP, appO_ok (by show 0 < 16777216; decide), bindP]
        refine ⟨_, rfl, .inr ⟨x, _, _, rfl, ?_⟩⟩
        simpa using hx
      · exact ⟨[], rfl, .inl rfl⟩
    obtain ⟨rules, erl, hr⟩ := hrule
    rw [erl, bindP]
    dsimp only
    have hnv : n.toNat = vs.length := by omega
    have hset : ∃ ds vs', (if (decide ((c % (3 : Int)) = (0 : Int))) = true then ((atO z2 (0 : Int)) >>= fun v32 => (setO z2 (n - (1 : Int)) v32 >>= fun x_law_world_1 => some (z1, x_law_world_1, rules, T3.mk rs ca mem))) else some (z1, z2, rules, T3.mk rs ca mem)) = some (z1, ds, rules, T3.mk rs ca mem) ∧ Paired Told ds vs' ∧ (∀ v ∈ vs', Fit3 v) ∧ vs'.length = vs.length ∧ ∃ own, (if (decide ((c % (3 : Int)) = (0 : Int))) = true then ((atO vs' (0 : Int)) >>= fun v31 => (setO vs' (n - (1 : Int)) v31 >>= fun x_law_own => some x_law_own)) else some vs') = some own ∧ Paired Told ds own ∧ (∀ v ∈ own, Fit3 v) ∧ own.length = vs.length := by
      split
      · rw [atO_get (by decide) (by omega), bindP, setO_ok (by omega) (by omega), bindP]
        have hT0 : Told (z2[(0 : Int).toNat]'(by have : (0 : Int).toNat = 0 := rfl; omega)) (vs[(0 : Int).toNat]'(by have : (0 : Int).toNat = 0 := rfl; omega)) := paired_get hv _ _
        have hF0 : Fit3 (vs[(0 : Int).toNat]'(by have : (0 : Int).toNat = 0 := rfl; omega)) := hf _ (List.getElem_mem _)
        generalize (z2[(0 : Int).toNat]'(by have : (0 : Int).toNat = 0 := rfl; omega)) = d0 at hT0
        generalize hv0 : (vs[(0 : Int).toNat]'(by have : (0 : Int).toNat = 0 := rfl; omega)) = v0 at hT0 hF0
        have hfs : ∀ v ∈ vs.set (n - 1).toNat v0, Fit3 v := fun v hm => by
          rcases List.mem_or_eq_of_mem_set hm with q | q
          · exact hf v q
          · rw [q]; exact hF0
        have hps := paired_set hv (n - 1).toNat hT0
        refine ⟨_, vs.set (n - 1).toNat v0, rfl, hps, hfs, by rw [List.length_set], ?_⟩
        rw [atO_get (by decide) (by rw [List.length_set]; omega), bindP, setO_ok (by omega) (by rw [List.length_set]; omega), bindP]
        have hx : (vs.set (n - 1).toNat v0)[(0 : Int).toNat]'(by rw [List.length_set]; have : (0 : Int).toNat = 0 := rfl; omega) = v0 := by
          rw [List.getElem_set]
          split
          · rfl
          · exact hv0
        rw [hx]
        refine ⟨_, rfl, ?_, fun v hm => ?_, by rw [List.length_set, List.length_set]⟩
        · rw [List.set_set]; exact hps
        · rw [List.set_set] at hm; exact hfs v hm
      · exact ⟨_, vs, rfl, hv, hf, rfl, vs, rfl, hv, hf, rfl⟩
    obtain ⟨ds, vs', es, hv', hf', lv', own, eo, hvo, hfo, lo⟩ := hset
    rw [es, bindP]
    dsimp only
    rw [made_all hv', bindP, eo, bindP]
    rw [till_eq, ebm]
    have hcut := cutO_len ns (some 10) (some 30)
    rw [catO_ok (by rw [List.length_singleton]; omega), bindP, loopC_unit]
    · rfl
    · intro one _
      left
      obtain ⟨o, eo2, ho2, lo2⟩ := orderB_ok one (n := own.length) (by omega)
      have e1 : n = (own.length : Int) := by omega
      have e2 : M.law_order one n = some o := by rw [e1]; exact eo2
      obtain ⟨res, f1, f2⟩ := due3_ok (bk := "again") w (by omega) hb hvo hfo hr ho2 (by omega) e1
      rw [e2, bindP, repO_one (by omega) (by omega), bindP, f1, bindP, f2, bindP, bindP, bindP, alike_self 24 _ (okD_fault res), bindP, bindP, if_neg (by decide)]
end Law
set_option Elab.async false
set_option linter.all false
set_option maxRecDepth 100000
set_option maxHeartbeats 40000000
set_option synthInstance.maxSize 100000
set_option synthInstance.maxHeartbeats 400000
namespace Law
open PySem PySem.Spec PyProof.Rows L2 T
instance : TabsC := ⟨[]⟩
theorem all_fin {P : Program} {w : World} {K : PySem.W.Frag} {mg : Str → Option Value} {fa : Addr} (h : ∃ fd : FuncData, (∀ (s : Shared) (v : Value), BindsTo s fd ⟨[v], []⟩ [("_law_script", v)]) ∧ ∀ base : Heap, K.In base → base.Ns mainGlobals mg → FnOk P w K mg base CX0 26 fa fd ["_law_script"] (lawsp K mg)) :
    ∃ fd : FuncData, (∀ (s : Shared) (v : Value), BindsTo s fd ⟨[v], []⟩ [("_law_script", v)]) ∧ ∀ base : Heap, K.In base → base.Ns mainGlobals mg → FnOk P w K mg base CX0 26 fa fd ["_law_script"] (T.spL K) := by
  obtain ⟨fd, h1, h2⟩ := h
  exact ⟨fd, h1, fun base a b => T.fin_bw law_true (h2 base a b)⟩
theorem walk {l : PySem.W.OpenLaw} {q : Program} {loose : List Str} {XP : (Str → Option Value) → Heap → Prop} {YP : World → Heap → Prop} {d : DefRec} {K : Params → PySem.W.Frag} (hn : l.most = some 63) (hdf : d.params.defaults = [])
    (hY : ∀ (w : World) (h : Heap), YP w h → (K w.params).In h)
    (F : ∀ (w : World) (mg : Str → Option Value) (fa : Addr) (h : Heap), (K w.params).In h → h.Ns mainGlobals mg → mg d.name = some (.ref fa) →
      ∃ fd : FuncData, (∀ (s : Shared) (u : Value), BindsTo s fd ⟨[u], []⟩ [("_law_script", u)]) ∧ ∀ base : Heap, (K w.params).In base → base.Ns mainGlobals mg → FnOk l.prog w (K w.params) mg base CX0 26 fa fd ["_law_script"] (T.spL (K w.params))) :
    PySem.W.WalkO q loose XP YP l.row.toRowW d [] (fun f vs => PySem.call f vs) :=
  L2.walk_of (n := 63) (k := 26) (x := "_law_script") (CX := fun _ => CX0) (sp := fun w => T.spL (K w.params)) hn (by decide) hdf ⟨rfl, by decide, by decide⟩ hY F (fun _ _ a ns hl _ hS => ⟨(fun _ z => nomatch z), a, ns, rfl, hS, hl, fun _ => rfl⟩) fun _ _ _ _ _ z => z
end Law
open PySem PySem.W PyProof.Rows
set_option maxRecDepth 100000 in
set_option maxHeartbeats 0 in
theorem PySem.Challenge.cw_voucherstack_k21_hindrances_in_orders_holds : PySem.Challenge.rw_voucherstack_k21_hindrances_in_orders.Holds := by
  w_on; o_law; k_headL; (case hw => w_witness2)
  k_fill
  refine Law.walk (l := PySem.Challenge.rw_voucherstack_k21_hindrances_in_orders) rfl rfl (fun w h Y => PySem.W.kIn_of Y) ?F
  case F => as_aux_lemma =>
    intro w mg fa h KX G hmg
    refine' Law.all_fin (Law.all_mk (l := PySem.Challenge.rw_voucherstack_k21_hindrances_in_orders) KX G hmg ?a_Marks ?pg_Marks ?hd_Marks ?po_Marks ?sa_Marks ?a_Off ?pg_Off ?hd_Off ?po_Off ?sa_Off ?a_Share ?pg_Share ?hd_Share ?po_Share ?sa_Share ?a_Carriage ?pg_Carriage ?hd_Carriage ?po_Carriage ?sa_Carriage ?a_Voucher ?pg_Voucher ?hd_Voucher ?po_Voucher ?sa_Voucher ?a_Till ?pg_Till ?hd_Till ?po_Till ?sa_Till ?a_Line ?pg_Line ?hd_Line ?po_Line ?sa_Line ?a_Basket ?pg_Basket ?hd_Basket ?po_Basket ?sa_Basket ?a_Standing ?pg_Standing ?hd_Standing ?po_Standing ?sa_Standing ?n_Basket_carriage ?n_Basket_lines ?n_Basket_member ?n_Carriage_marks ?n_Line_kind ?n_Line_many ?n_Line_price ?n_Line_special ?n_Marks_kind ?n_Marks_lone ?n_Marks_member ?n_Marks_most ?n_Marks_needs ?n_Marks_once ?n_Off_amount ?n_Off_marks ?n_Share_by_line ?n_Share_marks ?n_Share_share ?n_Standing_carriage ?n_Standing_marked ?n_Standing_owners ?n_Standing_prices ?n_Till_back ?n_Till_parents ?n_Till_rules ?n_Till_vouchers ?mi_Basket ?mm_Basket ?mf_Basket ?mk_Basket ?mi_Carriage ?mm_Carriage ?mf_Carriage ?mk_Carriage ?mi_Line ?mm_Line ?mf_Line ?mk_Line ?mi_Marks ?mm_Marks ?mf_Marks ?mk_Marks ?mi_Off ?mm_Off ?mf_Off ?mk_Off ?mi_Share ?mm_Share ?mf_Share ?mk_Share ?mi_Standing ?mm_Standing ?mf_Standing ?mk_Standing ?mi_Till ?mm_Till ?mf_Till ?mk_Till ?ma_Carriage_Voucher_wanted ?mn_Carriage_Voucher_wanted ?ma_Carriage_Carriage_wanted_carriage ?mn_Carriage_Carriage_wanted_carriage ?ma_Off_Off_wanted ?mn_Off_Off_wanted ?ma_Off_Voucher_wanted_carriage ?mn_Off_Voucher_wanted_carriage ?ma_Share_Share_wanted ?mn_Share_Share_wanted ?ma_Share_Voucher_wanted_carriage ?mn_Share_Voucher_wanted_carriage ?cr_Voucher ?cg_Voucher ?cv_Voucher_Voucher_init ?a_law_cell ?l_law_cell ?c_law_cell ?k_law_cell ?a_law_mixed ?l_law_mixed ?c_law_mixed ?k_law_mixed ?a_law_parents ?l_law_parents ?c_law_parents ?k_law_parents ?a_law_coins ?l_law_coins ?c_law_coins ?k_law_coins ?a_law_basket ?l_law_basket ?c_law_basket ?k_law_basket ?a_law_begun ?l_law_begun ?c_law_begun ?k_law_begun ?a_law_voucher ?l_law_voucher ?c_law_voucher ?k_law_voucher ?l_Marks_init ?t_Marks_init ?c_Marks_init ?k_Marks_init ?l_Voucher_init ?t_Voucher_init ?c_Voucher_init ?k_Voucher_init ?l_Off_init ?t_Off_init ?c_Off_init ?k_Off_init ?l_Share_init ?t_Share_init ?c_Share_init ?k_Share_init ?a_law_made ?l_law_made ?c_law_made ?k_law_made ?l_Till_init ?t_Till_init ?c_Till_init ?k_Till_init ?l_Line_init ?t_Line_init ?c_Line_init ?k_Line_init ?l_Basket_init ?t_Basket_init ?c_Basket_init ?k_Basket_init ?a_law_basket_made ?l_law_basket_made ?c_law_basket_made ?k_law_basket_made ?a_law_order ?l_law_order ?c_law_order ?k_law_order ?a_piece_price ?l_piece_price ?c_piece_price ?k_piece_price ?l_Standing_init ?c_Standing_init ?k_Standing_init ?a_never_beside ?l_never_beside ?c_never_beside ?k_never_beside ?a_comes_late ?l_comes_late ?c_comes_late ?k_comes_late ?a_under ?l_under ?c_under ?k_under ?a_about ?l_about ?c_about ?k_about ?a_hindrance ?l_hindrance ?c_hindrance ?k_hindrance ?a_word_of ?l_word_of ?c_word_of ?k_word_of ?a_dealt ?l_dealt ?c_dealt ?k_dealt ?l_Off_wanted ?c_Off_wanted ?k_Off_wanted ?l_Share_wanted ?c_Share_wanted ?k_Share_wanted ?l_Voucher_wanted ?c_Voucher_wanted ?k_Voucher_wanted ?l_Voucher_wanted_carriage ?c_Voucher_wanted_carriage ?k_Voucher_wanted_carriage ?l_Carriage_wanted_carriage ?c_Carriage_wanted_carriage ?k_Carriage_wanted_carriage ?a_cuts ?l_cuts ?c_cuts ?k_cuts ?a_after ?l_after ?c_after ?k_after ?a_lacking ?l_lacking ?c_lacking ?k_lacking ?a_fault ?l_fault ?c_fault ?k_fault ?a_law_under ?l_law_under ?c_law_under ?k_law_under ?a_law_about ?l_law_about ?c_law_about ?k_law_about ?a_law_hindrance ?l_law_hindrance ?c_law_hindrance ?k_law_hindrance ?a_law_used ?l_law_used ?c_law_used ?k_law_used ?a_law_due ?l_law_due ?c_law_due ?k_law_due ?a_law_alike ?l_law_alike ?c_law_alike ?k_law_alike ?a_law ?l_law ?c_law ?k_law ?z_all ?z_bool ?z_enumerate ?z_int ?z_isinstance ?z_len ?z_list ?z_min ?z_range ?z_set ?z_sorted ?z_str ?z_sum ?z_tuple ?z_zip)
    (case a_Marks => k_is); (case a_Off => k_is); (case a_Share => k_is); (case a_Carriage => k_is); (case a_Voucher => k_is); (case a_Till => k_is)
    (case a_Line => k_is); (case a_Basket => k_is); (case a_Standing => k_is); (case a_law_cell => k_is); (case a_law_mixed => k_is); (case a_law_parents => k_is)
    (case a_law_coins => k_is); (case a_law_basket => k_is); (case a_law_begun => k_is); (case a_law_voucher => k_is); (case a_law_made => k_is); (case a_law_basket_made => k_is)
    (case a_law_order => k_is); (case a_piece_price => k_is); (case a_never_beside => k_is); (case a_comes_late => k_is); (case a_under => k_is); (case a_about => k_is)
    (case a_hindrance => k_is); (case a_word_of => k_is); (case a_dealt => k_is); (case a_cuts => k_is); (case a_after => k_is); (case a_lacking => k_is)
    (case a_fault => k_is); (case a_law_under => k_is); (case a_law_about => k_is); (case a_law_hindrance => k_is); (case a_law_used => k_is); (case a_law_due => k_is)
    (case a_law_alike => k_is); (case a_law => k_is); (case pg_Marks => k_is); (case hd_Marks => k_is); (case po_Marks => k_is); (case sa_Marks => k_is)
    (case pg_Off => k_is); (case hd_Off => k_is); (case po_Off => k_is); (case sa_Off => k_is); (case pg_Share => k_is); (case hd_Share => k_is)
    (case po_Share => k_is); (case sa_Share => k_is); (case pg_Carriage => k_is); (case hd_Carriage => k_is); (case po_Carriage => k_is); (case sa_Carriage => k_is)
    (case pg_Voucher => k_is); (case hd_Voucher => k_is); (case po_Voucher => k_is); (case sa_Voucher => k_is); (case pg_Till => k_is); (case hd_Till => k_is)
    (case po_Till => k_is); (case sa_Till => k_is); (case pg_Line => k_is); (case hd_Line => k_is); (case po_Line => k_is); (case sa_Line => k_is)
    (case pg_Basket => k_is); (case hd_Basket => k_is); (case po_Basket => k_is); (case sa_Basket => k_is); (case pg_Standing => k_is); (case hd_Standing => k_is)
    (case po_Standing => k_is); (case sa_Standing => k_is); (case n_Basket_carriage => k_is); (case n_Basket_lines => k_is); (case n_Basket_member => k_is); (case n_Carriage_marks => k_is)
    (case n_Line_kind => k_is); (case n_Line_many => k_is); (case n_Line_price => k_is); (case n_Line_special => k_is); (case n_Marks_kind => k_is); (case n_Marks_lone => k_is)
    (case n_Marks_member => k_is); (case n_Marks_most => k_is); (case n_Marks_needs => k_is); (case n_Marks_once => k_is); (case n_Off_amount => k_is); (case n_Off_marks => k_is)
    (case n_Share_by_line => k_is); (case n_Share_marks => k_is); (case n_Share_share => k_is); (case n_Standing_carriage => k_is); (case n_Standing_marked => k_is); (case n_Standing_owners => k_is)
    (case n_Standing_prices => k_is); (case n_Till_back => k_is); (case n_Till_parents => k_is); (case n_Till_rules => k_is); (case n_Till_vouchers => k_is); (case mi_Basket => k_is)
    (case mm_Basket => k_is); (case mf_Basket => k_is); (case mk_Basket => k_is); (case mi_Carriage => k_is); (case mm_Carriage => k_is); (case mf_Carriage => k_is)
    (case mk_Carriage => k_is); (case mi_Line => k_is); (case mm_Line => k_is); (case mf_Line => k_is); (case mk_Line => k_is); (case mi_Marks => k_is)
    (case mm_Marks => k_is); (case mf_Marks => k_is); (case mk_Marks => k_is); (case mi_Off => k_is); (case mm_Off => k_is); (case mf_Off => k_is)
    (case mk_Off => k_is); (case mi_Share => k_is); (case mm_Share => k_is); (case mf_Share => k_is); (case mk_Share => k_is); (case mi_Standing => k_is)
    (case mm_Standing => k_is); (case mf_Standing => k_is); (case mk_Standing => k_is); (case mi_Till => k_is); (case mm_Till => k_is); (case mf_Till => k_is)
    (case mk_Till => k_is); (case ma_Carriage_Voucher_wanted => k_is); (case mn_Carriage_Voucher_wanted => k_is); (case ma_Carriage_Carriage_wanted_carriage => k_is); (case mn_Carriage_Carriage_wanted_carriage => k_is); (case ma_Off_Off_wanted => k_is)
    (case mn_Off_Off_wanted => k_is); (case ma_Off_Voucher_wanted_carriage => k_is); (case mn_Off_Voucher_wanted_carriage => k_is); (case ma_Share_Share_wanted => k_is); (case mn_Share_Share_wanted => k_is); (case ma_Share_Voucher_wanted_carriage => k_is)
    (case mn_Share_Voucher_wanted_carriage => k_is); (case cr_Voucher => k_is); (case cg_Voucher => k_is); (case cv_Voucher_Voucher_init => k_is); (case l_law_cell => k_is); (case c_law_cell => k_is)
    (case k_law_cell => k_is); (case l_law_mixed => k_is); (case c_law_mixed => k_is); (case k_law_mixed => k_is); (case l_law_parents => k_is); (case c_law_parents => k_is)
    (case k_law_parents => k_is); (case l_law_coins => k_is); (case c_law_coins => k_is); (case k_law_coins => k_is); (case l_law_basket => k_is); (case c_law_basket => k_is)
    (case k_law_basket => k_is); (case l_law_begun => k_is); (case c_law_begun => k_is); (case k_law_begun => k_is); (case l_law_voucher => k_is); (case c_law_voucher => k_is)
    (case k_law_voucher => k_is); (case l_Marks_init => k_is); (case t_Marks_init => k_is); (case c_Marks_init => k_is); (case k_Marks_init => k_is); (case l_Voucher_init => k_is)
    (case t_Voucher_init => k_is); (case c_Voucher_init => k_is); (case k_Voucher_init => k_is); (case l_Off_init => k_is); (case t_Off_init => k_is); (case c_Off_init => k_is)
    (case k_Off_init => k_is); (case l_Share_init => k_is); (case t_Share_init => k_is); (case c_Share_init => k_is); (case k_Share_init => k_is); (case l_law_made => k_is)
    (case c_law_made => k_is); (case k_law_made => k_is); (case l_Till_init => k_is); (case t_Till_init => k_is); (case c_Till_init => k_is); (case k_Till_init => k_is)
    (case l_Line_init => k_is); (case t_Line_init => k_is); (case c_Line_init => k_is); (case k_Line_init => k_is); (case l_Basket_init => k_is); (case t_Basket_init => k_is)
    (case c_Basket_init => k_is); (case k_Basket_init => k_is); (case l_law_basket_made => k_is); (case c_law_basket_made => k_is); (case k_law_basket_made => k_is); (case l_law_order => k_is)
    (case c_law_order => k_is); (case k_law_order => k_is); (case l_piece_price => k_is); (case c_piece_price => k_is); (case k_piece_price => k_is); (case l_Standing_init => k_is)
    (case c_Standing_init => k_is); (case k_Standing_init => k_is); (case l_never_beside => k_is); (case c_never_beside => k_is); (case k_never_beside => k_is); (case l_comes_late => k_is)
    (case c_comes_late => k_is); (case k_comes_late => k_is); (case l_under => k_is); (case c_under => k_is); (case k_under => k_is); (case l_about => k_is)
    (case c_about => k_is); (case k_about => k_is); (case l_hindrance => k_is); (case c_hindrance => k_is); (case k_hindrance => k_is); (case l_word_of => k_is)
    (case c_word_of => k_is); (case k_word_of => k_is); (case l_dealt => k_is); (case c_dealt => k_is); (case k_dealt => k_is); (case l_Off_wanted => k_is)
    (case c_Off_wanted => k_is); (case k_Off_wanted => k_is); (case l_Share_wanted => k_is); (case c_Share_wanted => k_is); (case k_Share_wanted => k_is); (case l_Voucher_wanted => k_is)
    (case c_Voucher_wanted => k_is); (case k_Voucher_wanted => k_is); (case l_Voucher_wanted_carriage => k_is); (case c_Voucher_wanted_carriage => k_is); (case k_Voucher_wanted_carriage => k_is); (case l_Carriage_wanted_carriage => k_is)
    (case c_Carriage_wanted_carriage => k_is); (case k_Carriage_wanted_carriage => k_is); (case l_cuts => k_is); (case c_cuts => k_is); (case k_cuts => k_is); (case l_after => k_is)
    (case c_after => k_is); (case k_after => k_is); (case l_lacking => k_is); (case c_lacking => k_is); (case k_lacking => k_is); (case l_fault => k_is)
    (case c_fault => k_is); (case k_fault => k_is); (case l_law_under => k_is); (case c_law_under => k_is); (case k_law_under => k_is); (case l_law_about => k_is)
    (case c_law_about => k_is); (case k_law_about => k_is); (case l_law_hindrance => k_is); (case c_law_hindrance => k_is); (case k_law_hindrance => k_is); (case l_law_used => k_is)
    (case c_law_used => k_is); (case k_law_used => k_is); (case l_law_due => k_is); (case c_law_due => k_is); (case k_law_due => k_is); (case l_law_alike => k_is)
    (case c_law_alike => k_is); (case k_law_alike => k_is); (case l_law => k_is); (case c_law => k_is); (case k_law => k_is); (case z_all => k_is)
    (case z_bool => k_is); (case z_enumerate => k_is); (case z_int => k_is); (case z_isinstance => k_is); (case z_len => k_is); (case z_list => k_is)
    (case z_min => k_is); (case z_range => k_is); (case z_set => k_is); (case z_sorted => k_is); (case z_str => k_is); (case z_sum => k_is)
    (case z_tuple => k_is); (case z_zip => k_is)
