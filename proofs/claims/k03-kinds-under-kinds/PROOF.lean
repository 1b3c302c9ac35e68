import PyProof.Rows.All
import Wide.All
import OpenK.AllK
import Wide.FinOn
import HandS.ForMost
import HandS.Wide
import HandS.EndBits
import HandS.Defaults
import KE.Datum
import KE.DatumIndex
import HandS.IsInst
import HandS.Style
import PySem.Challenge.RW_voucherstack_k03_kinds_under_kinds
set_option Elab.async false
set_option linter.all false
set_option maxRecDepth 100000
namespace T
open PySem PySem.Spec PyProof.Rows L2

/-! the module's facts; what is true of a value in the part of the heap that stays as it is -/
structure Gb where
  K : PySem.W.Frag
  mg : Str → Option Value
abbrev gb (X : Cx) : Gb := ⟨X.K, X.mg⟩
structure PR where
  p : Hp → V → Prop
  mono : ∀ {I I' : Hp} {v : V}, Same I I' → p I v → p I' v
structure PL where
  p : Hp → List V → Prop
  mono : ∀ {I I' : Hp} {vs : List V}, Same I I' → p I vs → p I' vs
class Py (α : Type) where
  r : Gb → α → PR

theorem seqT {K : PySem.W.Frag} {H H' : Hp} {a : Addr} {xs : List V} (e : Same H H') (h : SqT K H a xs) : SqT K H' a xs := by
  rcases h with (h | ⟨o, h⟩) | h
  · exact .inl (.inl (e _ _ h))
  · exact .inl (.inr ⟨o, e _ _ h⟩)
  · exact .inr h
theorem same_new {H : Hp} {p : Addr} {o : HO} (h : H p = none) : Same H (upd H p o) := fun b x e => by
  rw [upd_ne (ne_of_none e h)]
  exact e

/-- items, one by one; no more than a list may hold -/
def rl {α : Type} [Py α] (g : Gb) (as : List α) : PL where
  p := fun I vs => as.length ≤ sizeLine ∧ Paired (fun a v => (Py.r g a).p I v) as vs
  mono := fun s h => ⟨h.1, L2.Paired.mapP h.2 fun _ _ q => (Py.r g _).mono s q⟩
theorem rl_len {α : Type} [Py α] {g : Gb} {as : List α} {I : Hp} {vs : List V} (h : (rl g as).p I vs) : vs.length = as.length := (Paired.length h.2).symm

section
variable {α β γ δ : Type} [Py α] [Py β] [Py γ] [Py δ]
instance : Py Int := ⟨fun _ i => ⟨fun _ v => v = .int i, fun _ h => h⟩⟩
instance : Py Bool := ⟨fun _ i => ⟨fun _ v => v = .bl i, fun _ h => h⟩⟩
instance : Py Str := ⟨fun _ i => ⟨fun _ v => v = .str i, fun _ h => h⟩⟩
instance : Py Unit := ⟨fun _ _ => ⟨fun _ v => v = .non, fun _ h => h⟩⟩
def rOpt (g : Gb) : Option α → PR
  | none => ⟨fun _ v => v = .non, fun _ h => h⟩
  | some a => Py.r g a
instance : Py (Option α) := ⟨rOpt⟩
def rLst (g : Gb) (as : List α) : PR where
  p := fun I v => ∃ l vs, v = .ref l ∧ SqL g.K I l vs ∧ (rl g as).p I vs
  mono := fun s ⟨l, vs, e, h, q⟩ => ⟨l, vs, e, s.seq h, (rl g as).mono s q⟩
instance : Py (List α) := ⟨rLst⟩
end
structure T2 (α β : Type) where
  x0 : α
  x1 : β
  deriving DecidableEq
structure T3 (α β γ : Type) where
  x0 : α
  x1 : β
  x2 : γ
  deriving DecidableEq
structure T4 (α β γ δ : Type) where
  x0 : α
  x1 : β
  x2 : γ
  x3 : δ
  deriving DecidableEq
section
variable {α β γ δ : Type} [Py α] [Py β] [Py γ] [Py δ]
instance : Py (T2 α β) := ⟨fun g t => ⟨fun I v => ∃ p a b, v = .ref p ∧ SqT g.K I p [a, b] ∧ (Py.r g t.x0).p I a ∧ (Py.r g t.x1).p I b,
  fun s ⟨p, a, b, e, h, q1, q2⟩ => ⟨p, a, b, e, seqT s h, (Py.r g _).mono s q1, (Py.r g _).mono s q2⟩⟩⟩
instance : Py (T3 α β γ) := ⟨fun g t => ⟨fun I v => ∃ p a b c, v = .ref p ∧ SqT g.K I p [a, b, c] ∧ (Py.r g t.x0).p I a ∧ (Py.r g t.x1).p I b ∧ (Py.r g t.x2).p I c,
  fun s ⟨p, a, b, c, e, h, q1, q2, q3⟩ => ⟨p, a, b, c, e, seqT s h, (Py.r g _).mono s q1, (Py.r g _).mono s q2, (Py.r g _).mono s q3⟩⟩⟩
instance : Py (T4 α β γ δ) := ⟨fun g t => ⟨fun I v => ∃ p a b c d, v = .ref p ∧ SqT g.K I p [a, b, c, d] ∧ (Py.r g t.x0).p I a ∧ (Py.r g t.x1).p I b ∧ (Py.r g t.x2).p I c ∧ (Py.r g t.x3).p I d,
  fun s ⟨p, a, b, c, d, e, h, q1, q2, q3, q4⟩ => ⟨p, a, b, c, d, e, seqT s h, (Py.r g _).mono s q1, (Py.r g _).mono s q2, (Py.r g _).mono s q3, (Py.r g _).mono s q4⟩⟩⟩
end

/-! kinds of values: a thing that stays (im), a new list of one's own (fr), a list of the caller's (bw), a list as it stands now (rd) -/
inductive RK where
  | im (p : PR) | fr (q : PL) | bw (q : PL) | rd (q : PL)
def RK.holds (g : Gb) : RK → Hp → V → Hp → Hp → Prop
  | .im p, _, v, I', _ => p.p I' v
  | .fr q, H, v, I', H' => ∃ l vs, v = .ref l ∧ H l = none ∧ I' l = none ∧ H' l = some (.lst vs) ∧ q.p I' vs
  | .bw q, H, v, I', _ => ∃ l vs, v = .ref l ∧ SqL g.K H l vs ∧ q.p I' vs
  | .rd q, _, v, I', H' => ∃ l vs, v = .ref l ∧ SqL g.K H' l vs ∧ q.p I' vs
/-- the heap grows: I what stays as it is, H all -/
structure Ext (I H I' H' : Hp) : Prop where
  i : Same I I'
  h : Same H H'
  s : Same I' H'
  n : ∀ l, H l ≠ none → I l = none → I' l = none
theorem Ext.refl {I H : Hp} (s : Same I H) : Ext I H I H := ⟨Same.refl _, Same.refl _, s, fun _ _ h => h⟩
theorem Ext.trans {I H I1 H1 I2 H2 : Hp} (a : Ext I H I1 H1) (b : Ext I1 H1 I2 H2) : Ext I H I2 H2 :=
  ⟨a.i.trans b.i, a.h.trans b.h, b.s, fun l h1 h2 => b.n l (fun z => h1 (a.h.free z)) (a.n l h1 h2)⟩
theorem RK.ext {g : Gb} {k : RK} {H : Hp} {v : V} {I1 H1 I2 H2 : Hp} (h : RK.holds g k H v I1 H1) (x : Ext I1 H1 I2 H2) : RK.holds g k H v I2 H2 := by
  cases k with
  | im p => exact p.mono x.i h
  | fr q =>
    obtain ⟨l, vs, e, h1, h2, h3, h4⟩ := h
    exact ⟨l, vs, e, h1, x.n l (by rw [h3]; simp) h2, x.h _ _ h3, q.mono x.i h4⟩
  | bw q =>
    obtain ⟨l, vs, e, h1, h4⟩ := h
    exact ⟨l, vs, e, h1, q.mono x.i h4⟩
  | rd q =>
    obtain ⟨l, vs, e, h1, h4⟩ := h
    exact ⟨l, vs, e, x.h.seq h1, q.mono x.i h4⟩
/-- seen from an earlier heap (of a borrowed list: no) -/
theorem RK.back {g : Gb} {k : RK} {H0 H : Hp} {v : V} {I' H' : Hp} (hb : ∀ q, k ≠ .bw q) (s : Same H0 H) (h : RK.holds g k H v I' H') : RK.holds g k H0 v I' H' := by
  cases k with
  | im p => exact h
  | fr q =>
    obtain ⟨l, vs, e, h1, h2, h3, h4⟩ := h
    exact ⟨l, vs, e, s.free h1, h2, h3, h4⟩
  | bw q => exact absurd rfl (hb q)
  | rd q => exact h

/-! the state: what is known of each slot; a slot of kind fr is owned -/
structure Bs where
  I : Hp
  H : Hp
abbrev SL := List (Option RK)
/-- the j-th slot owns the list at l -/
def Own (S : SL) (σ : L2.St) (j : Nat) (l : Addr) : Prop := (∃ q : PL, S[j]? = some (some (RK.fr q))) ∧ σ[j]? = some (some (V.ref l))
structure Hold (g : Gb) (B : Bs) (S : SL) (σ : L2.St) (I H : Hp) : Prop where
  len : σ.length = S.length
  sub : Same I H
  base : Same B.H H
  at_ : ∀ (i : Nat) (k : RK), S[i]? = some (some k) → ∃ v, σ[i]? = some (some v) ∧ RK.holds g k B.H v I H
  ne : ∀ (i j : Nat) (l : Addr), Own S σ i l → Own S σ j l → i = j
  nr : ∀ (i : Nat) (q : PL), S[i]? ≠ some (some (.rd q))
theorem Hold.ext {g : Gb} {B : Bs} {S : SL} {σ : L2.St} {I H I' H' : Hp} (h : Hold g B S σ I H) (x : Ext I H I' H') : Hold g B S σ I' H' :=
  ⟨h.len, x.s, h.base.trans x.h, fun i k e => let ⟨v, e1, q⟩ := h.at_ i k e; ⟨v, e1, RK.ext q x⟩, h.ne, h.nr⟩
theorem Hold.own {g : Gb} {B : Bs} {S : SL} {σ : L2.St} {I H : Hp} (h : Hold g B S σ I H) {j : Nat} {l : Addr} (o : Own S σ j l) : H l ≠ none ∧ I l = none ∧ B.H l = none := by
  obtain ⟨⟨q, e⟩, e2⟩ := o
  obtain ⟨v, e1, l', vs, e3, h1, h2, h3, _⟩ := h.at_ j _ e
  rw [e2] at e1
  cases e1
  cases e3
  exact ⟨by rw [h3]; simp, h2, h1⟩
def RK.slotty : RK → Bool
  | .im _ => true
  | .fr _ => true
  | _ => false
theorem set_some {α : Type} {l : List α} {i j : Nat} {x y : α} (h : (l.set i x)[j]? = some y) : (i = j ∧ x = y ∧ i < l.length) ∨ (i ≠ j ∧ l[j]? = some y) := by
  by_cases hj : i = j
  · subst hj
    have hi : i < l.length := by
      have := (List.getElem?_eq_some_iff.mp h).1
      rwa [List.length_set] at this
    rw [List.getElem?_set_self hi] at h
    exact .inl ⟨rfl, Option.some.inj h, hi⟩
  · rw [List.getElem?_set_ne hj] at h
    exact .inr ⟨hj, h⟩
/-- a value goes to a slot -/
theorem Hold.put {g : Gb} {B : Bs} {S : SL} {σ : L2.St} {I H H1 : Hp} {i : Nat} {k : RK} {v : V} (h : Hold g B S σ I H) (hk : k.slotty = true) (hv : RK.holds g k H1 v I H) (hs : Same B.H H1)
    (ho : ∀ j l, Own S σ j l → H1 l ≠ none) : Hold g B (S.set i (some k)) (σ.set i (some v)) I H := by
  have old : ∀ {j l}, Own (S.set i (some k)) (σ.set i (some v)) j l → (i = j ∧ H1 l = none) ∨ (i ≠ j ∧ Own S σ j l) := fun {j l} ⟨⟨q, e⟩, e2⟩ => by
    rcases set_some e with ⟨a, b, c⟩ | ⟨a, b⟩
    · rcases set_some e2 with ⟨_, d, _⟩ | ⟨z, _⟩
      · cases b
        cases d
        obtain ⟨l', vs, e3, h1, _⟩ := hv
        cases e3
        exact .inl ⟨a, h1⟩
      · exact absurd a z
    · rcases set_some e2 with ⟨z, _⟩ | ⟨_, d⟩
      · exact absurd z a
      · exact .inr ⟨a, ⟨q, b⟩, d⟩
  refine ⟨by rw [List.length_set, List.length_set, h.len], h.sub, h.base, fun j k' e => ?_, fun a b l ha hb => ?_, fun j q e => ?_⟩
  · rcases set_some e with ⟨a, b, c⟩ | ⟨a, b⟩
    · subst a
      cases b
      refine ⟨v, List.getElem?_set_self (by rw [h.len]; exact c), RK.back (fun q z => ?_) hs hv⟩
      rw [z] at hk; cases hk
    · obtain ⟨u, e1, q⟩ := h.at_ j k' b
      exact ⟨u, by rw [List.getElem?_set_ne a]; exact e1, q⟩
  · rcases old ha with ⟨a1, a2⟩ | ⟨a1, a2⟩
    · rcases old hb with ⟨b1, b2⟩ | ⟨b1, b2⟩
      · rw [← a1, ← b1]
      · exact absurd a2 (ho _ _ b2)
    · rcases old hb with ⟨b1, b2⟩ | ⟨b1, b2⟩
      · exact absurd b2 (ho _ _ a2)
      · exact h.ne a b l a2 b2
  · rcases set_some e with ⟨_, b, _⟩ | ⟨_, b⟩
    · cases b
      cases hk
    · exact h.nr j q b
end T
set_option Elab.async false
set_option linter.all false
set_option maxRecDepth 100000
namespace T
open PySem PySem.Spec PyProof.Rows L2

/-! judgements: an expression's value, a test's answer, an argument list -/
def rdE (g : Gb) (B : Bs) (S : SL) (k : RK) : TE := fun σ H Q => ∃ I, Hold g B S σ I H ∧ ∀ v I' H', Ext I H I' H' → RK.holds g k H v I' H' → Q v H'
structure ME {α : Type} (X : Cx) (g : Gb) (B : Bs) (S : SL) (e : Expr) (m : Option α) (k : α → RK) : Prop where
  run : ∀ a, m = some a → PE X e (rdE g B S (k a))
def rdT (g : Gb) (B : Bs) (S : SL) (b : Bool) : TT := fun σ H Q => ∃ I, Hold g B S σ I H ∧ ∀ I' H', Ext I H I' H' → Q b H'
structure MT (X : Cx) (g : Gb) (B : Bs) (S : SL) (e : Expr) (m : Option Bool) : Prop where
  run : ∀ b, m = some b → PT X e (rdT g B S b)
structure MW (X : Cx) (g : Gb) (B : Bs) (S : SL) (e : Expr) (m : Option Bool) : Prop where
  run : ∀ b, m = some b → PW X e (rdT g B S b)
theorem pe_imp {X : Cx} {e : Expr} {t t' : TE} (h : PE X e t) (f : ∀ σ H Q, t' σ H Q → t σ H Q) : PE X e t' := ⟨fun pins s σ H Q I hw => h.run pins s σ H Q I (f σ H Q hw)⟩
theorem pt_imp {X : Cx} {e : Expr} {t t' : TT} (h : PT X e t) (f : ∀ σ H Q, t' σ H Q → t σ H Q) : PT X e t' := ⟨fun pins s σ H Q I hw => h.run pins s σ H Q I (f σ H Q hw)⟩
theorem pw_imp {X : Cx} {e : Expr} {t t' : TT} (h : PW X e t) (f : ∀ σ H Q, t' σ H Q → t σ H Q) : PW X e t' := ⟨fun wh pins s σ H Q I hw => h.run wh pins s σ H Q I (f σ H Q hw)⟩
theorem bind_some {α β : Type} {m : Option α} {f : α → Option β} {b : β} (h : (m >>= f) = some b) : ∃ a, m = some a ∧ f a = some b := by
  cases m with
  | none => cases h
  | some a => exact ⟨a, rfl, h⟩
theorem ME.eq {α : Type} {X : Cx} {g : Gb} {B : Bs} {S : SL} {e : Expr} {m m' : Option α} {k : α → RK} (h : ME X g B S e m k) (q : m = m') : ME X g B S e m' k := q ▸ h
theorem MT.eq {X : Cx} {g : Gb} {B : Bs} {S : SL} {e : Expr} {m m' : Option Bool} (h : MT X g B S e m) (q : m = m') : MT X g B S e m' := q ▸ h

/-- a list that can be read -/
def LR {α : Type} [Py α] (g : Gb) (k : List α → RK) : Prop := ∀ xs H v I' H', Same I' H' → RK.holds g (k xs) H v I' H' → ∃ l vs, v = .ref l ∧ SqL g.K H' l vs ∧ (rl g xs).p I' vs
section
variable {α β γ δ : Type} [Py α] [Py β] [Py γ] [Py δ] {g : Gb}
theorem lr_im : LR (α := α) g (fun xs => .im (Py.r g xs)) := fun xs H v I' H' s h => by
  obtain ⟨l, vs, e, h1, h2⟩ := h
  exact ⟨l, vs, e, s.seq h1, h2⟩
theorem lr_fr : LR (α := α) g (fun xs => .fr (rl g xs)) := fun xs H v I' H' s h => by
  obtain ⟨l, vs, e, _, _, h1, h2⟩ := h
  exact ⟨l, vs, e, SqL.of h1, h2⟩
theorem lr_rd : LR (α := α) g (fun xs => .rd (rl g xs)) := fun xs H v I' H' s h => h
end
theorem vals_ints {g : Gb} {I : Hp} : ∀ {ns : List Int} {vs : List V}, Paired (fun a v => (Py.r g a).p I v) ns vs → vs = ns.map V.int
  | _, _, .nil => rfl
  | _, _, .cons (a := a) h t => by
    have e : _ = V.int a := h
    rw [e, List.map_cons, vals_ints t]
theorem vals_bls {g : Gb} {I : Hp} : ∀ {ns : List Bool} {vs : List V}, Paired (fun a v => (Py.r g a).p I v) ns vs → vs = ns.map V.bl
  | _, _, .nil => rfl
  | _, _, .cons (a := a) h t => by
    have e : _ = V.bl a := h
    rw [e, List.map_cons, vals_bls t]
theorem paired_get {α β : Type} {F : α → β → Prop} : ∀ {l₁ : List α} {l₂ : List β}, Paired F l₁ l₂ → ∀ {i : Nat} {a : α}, l₁[i]? = some a → ∃ b, l₂[i]? = some b ∧ F a b
  | _, _, .nil, i, a, h => by simp at h
  | _, _, .cons h t, 0, a, e => by
    cases e
    exact ⟨_, rfl, h⟩
  | _, _, .cons h t, i + 1, a, e => paired_get t (i := i) (by simpa using e)
theorem paired_get' {α β : Type} {F : α → β → Prop} : ∀ {l₁ : List α} {l₂ : List β}, Paired F l₁ l₂ → ∀ {i : Nat} {b : β}, l₂[i]? = some b → ∃ a, l₁[i]? = some a ∧ F a b
  | _, _, .nil, i, a, h => by simp at h
  | _, _, .cons h t, 0, a, e => by
    cases e
    exact ⟨_, rfl, h⟩
  | _, _, .cons h t, i + 1, a, e => paired_get' t (i := i) (by simpa using e)
theorem paired_app {α β : Type} {F : α → β → Prop} : ∀ {a : List α} {b : List β} {c : List α} {d : List β}, Paired F a b → Paired F c d → Paired F (a ++ c) (b ++ d)
  | _, _, _, _, .nil, h => h
  | _, _, _, _, .cons x t, h => .cons x (paired_app t h)
theorem paired_take {α β : Type} {F : α → β → Prop} : ∀ {a : List α} {b : List β} (n : Nat), Paired F a b → Paired F (a.take n) (b.take n)
  | _, _, 0, _ => .nil
  | _, _, _ + 1, .nil => .nil
  | _, _, n + 1, .cons x t => .cons x (paired_take n t)
theorem paired_drop {α β : Type} {F : α → β → Prop} : ∀ {a : List α} {b : List β} (n : Nat), Paired F a b → Paired F (a.drop n) (b.drop n)
  | _, _, 0, h => h
  | _, _, _ + 1, .nil => .nil
  | _, _, n + 1, .cons x t => paired_drop n t
theorem paired_set {α β : Type} {F : α → β → Prop} {x : α} {y : β} (h : F x y) : ∀ {a : List α} {b : List β} (n : Nat), Paired F a b → Paired F (a.set n x) (b.set n y)
  | _, _, _, .nil => .nil
  | _, _, 0, .cons _ t => .cons h t
  | _, _, n + 1, .cons z t => .cons z (paired_set h n t)
theorem paired_rev {α β : Type} {F : α → β → Prop} : ∀ {a : List α} {b : List β}, Paired F a b → Paired F a.reverse b.reverse
  | _, _, .nil => .nil
  | _, _, .cons x t => by
    rw [List.reverse_cons, List.reverse_cons]
    exact paired_app (paired_rev t) (.cons x .nil)
theorem paired_rep {α β : Type} {F : α → β → Prop} {a : List α} {b : List β} (h : Paired F a b) : ∀ n : Nat, Paired F (List.replicate n a).flatten (List.replicate n b).flatten
  | 0 => .nil
  | n + 1 => by
    rw [List.replicate_succ, List.replicate_succ, List.flatten_cons, List.flatten_cons]
    exact paired_app h (paired_rep h n)
theorem atI_ix {α : Type} {xs : List α} {i : Int} {v : α} (h : atI xs i = some v) : ∃ j, ixN xs.length i = some j ∧ xs[j]? = some v := by
  unfold atI at h
  cases e : ixN xs.length i with
  | none => rw [e] at h; cases h
  | some j => rw [e] at h; exact ⟨j, rfl, h⟩
theorem paired_at {α β : Type} {F : α → β → Prop} {l₁ : List α} {l₂ : List β} (h : Paired F l₁ l₂) {i : Int} {a : α} (e : atI l₁ i = some a) : ∃ b, atI l₂ i = some b ∧ F a b := by
  obtain ⟨j, e1, e2⟩ := atI_ix e
  obtain ⟨b, e3, q⟩ := paired_get h e2
  refine ⟨b, ?_, q⟩
  unfold atI
  rw [← Paired.length h, e1]
  exact e3

/-- the item at a place, counted from the end below 0 -/
@[irreducible] def atO {α : Type} (xs : List α) (i : Int) : Option α := atI xs i
theorem atO_eq {α : Type} (xs : List α) (i : Int) : atO xs i = atI xs i := by unfold atO; rfl

section
variable {X : Cx} {g : Gb} {B : Bs} {S : SL} {e e1 e2 e3 : Expr} {pos pos' : Pos} {α β γ δ : Type} [Py α] [Py β] [Py γ] [Py δ]

/-! names, constants -/
theorem me_var (i : Nat) {x : Str} {a : α} (hS : S[i]? = some (some (.im (Py.r g a))) := by rfl) (hN : X.N[i]? = some x := by rfl) (hv : Vis X.env.scope x := by first | exact Or.inl rfl | exact Or.inr (Or.inl rfl) | exact Or.inr (Or.inr rfl))
    (hd : (x == ("__debug__" : Str)) = false := by decide) (hcd : (x == ("__classdict__" : Str)) = false := by decide) : ME X g B S (.Name x pos) (some a) (fun a => .im (Py.r g a)) := by
  refine ⟨fun a' e => ?_⟩
  cases e
  refine pe_imp (pe_var hN hv hd hcd) fun σ H Q ⟨I, h, q⟩ => ?_
  obtain ⟨v, e1, h1⟩ := h.at_ i _ hS
  exact ⟨v, e1, q v I H (Ext.refl h.sub) h1⟩
/-- an owned list, seen -/
theorem me_own (i : Nat) {x : Str} {as : List α} (hS : S[i]? = some (some (.fr (rl g as))) := by rfl) (hN : X.N[i]? = some x := by rfl) (hv : Vis X.env.scope x := by first | exact Or.inl rfl | exact Or.inr (Or.inl rfl) | exact Or.inr (Or.inr rfl))
    (hd : (x == ("__debug__" : Str)) = false := by decide) (hcd : (x == ("__classdict__" : Str)) = false := by decide) : ME X g B S (.Name x pos) (some as) (fun as => .rd (rl g as)) := by
  refine ⟨fun a' e => ?_⟩
  cases e
  refine pe_imp (pe_var hN hv hd hcd) fun σ H Q ⟨I, h, q⟩ => ?_
  obtain ⟨v, e1, l, vs, e2, _, _, h3, h4⟩ := h.at_ i _ hS
  exact ⟨v, e1, q v I H (Ext.refl h.sub) ⟨l, vs, e2, SqL.of h3, h4⟩⟩
/-- a borrowed list, seen -/
theorem me_bor (i : Nat) {x : Str} {as : List α} (hS : S[i]? = some (some (.bw (rl g as))) := by rfl) (hN : X.N[i]? = some x := by rfl) (hv : Vis X.env.scope x := by first | exact Or.inl rfl | exact Or.inr (Or.inl rfl) | exact Or.inr (Or.inr rfl))
    (hd : (x == ("__debug__" : Str)) = false := by decide) (hcd : (x == ("__classdict__" : Str)) = false := by decide) : ME X g B S (.Name x pos) (some as) (fun as => .rd (rl g as)) := by
  refine ⟨fun a' e => ?_⟩
  cases e
  refine pe_imp (pe_var hN hv hd hcd) fun σ H Q ⟨I, h, q⟩ => ?_
  obtain ⟨v, e1, l, vs, e2, h3, h4⟩ := h.at_ i _ hS
  exact ⟨v, e1, q v I H (Ext.refl h.sub) ⟨l, vs, e2, h.base.seq h3, h4⟩⟩
theorem me_c {v : V} {a : α} (h : PE X e (tC v)) (hv : ∀ I, (Py.r g a).p I v) : ME X g B S e (some a) (fun a => .im (Py.r g a)) := by
  refine ⟨fun a' e => ?_⟩
  cases e
  exact pe_imp h fun σ H Q ⟨I, h, q⟩ => q v I H (Ext.refl h.sub) (hv I)
theorem me_int {i j} : ME X g B S (.Constant (.int i) j pos) (some i) (fun a => .im (Py.r g a)) := me_c pe_int fun _ => rfl
theorem me_bl {b j} : ME X g B S (.Constant (.bool b) j pos) (some b) (fun a => .im (Py.r g a)) := me_c pe_bl fun _ => rfl
theorem me_str {x j} : ME X g B S (.Constant (.str x) j pos) (some x) (fun a => .im (Py.r g a)) := me_c pe_str fun _ => rfl
theorem me_non {j} : ME X g B S (.Constant .none j pos) (some (none : Option α)) (fun a => .im (Py.r g a)) := me_c pe_non fun _ => rfl
theorem me_unit {j} : ME X g B S (.Constant .none j pos) (some ()) (fun a => .im (Py.r g a)) := me_c pe_non fun _ => rfl
/-- a thing as one that may be None; one that is not -/
theorem me_some {m : Option α} (h : ME X g B S e m (fun a => .im (Py.r g a))) : ME X g B S e (m >>= fun a => some (some a)) (fun a => .im (Py.r g a)) := by
  refine ⟨fun a q => ?_⟩
  obtain ⟨b, e1, e2⟩ := bind_some q
  cases e2
  exact h.run b e1
theorem me_get {m : Option (Option α)} (h : ME X g B S e m (fun a => .im (Py.r g a))) : ME X g B S e (m >>= fun a => a) (fun a => .im (Py.r g a)) := by
  refine ⟨fun a q => ?_⟩
  obtain ⟨b, e1, e2⟩ := bind_some q
  subst e2
  exact h.run _ e1
/-- a new list is let go: it stays as it is from here on -/
theorem me_frz {m : Option (List α)} (h : ME X g B S e m (fun a => .fr (rl g a))) : ME X g B S e m (fun a => .im (Py.r g a)) := by
  refine ⟨fun a q => pe_imp (h.run a q) fun σ H Q ⟨I, hh, k⟩ => ⟨I, hh, fun v I' H' x hv => ?_⟩⟩
  obtain ⟨l, vs, rfl, h1, h2, h3, h4⟩ := hv
  refine k _ (upd I' l (.lst vs)) H' ⟨x.i.trans (same_new h2), x.h, fun b o e => ?_, fun b n1 n2 => ?_⟩ ⟨l, vs, rfl, SqL.of upd_same, (rl g a).mono (same_new h2) h4⟩
  · by_cases hb : b = l
    · subst hb
      rw [upd_same] at e
      cases e
      exact h3
    · rw [upd_ne hb] at e
      exact x.s _ _ e
  · have hb : b ≠ l := fun z => n1 (z ▸ h1)
    rw [upd_ne hb]
    exact x.n b n1 n2

/-! two operands -/
theorem me_bin {op : Operator} {r : R2} {a' b' c' : Type} {m1 : Option a'} {m2 : Option b'} {f : a' → b' → Option c'} {k1 : a' → RK} {k2 : b' → RK} {k : c' → RK} (ho : OpR X (binaryOp op) r) (h1 : ME X g B S e1 m1 k1) (h2 : ME X g B S e2 m2 k2)
    (hr : ∀ a b c, f a b = some c → ∀ v w I H H0 H1 Q, Same I H → RK.holds g (k1 a) H0 v I H → RK.holds g (k2 b) H1 w I H → (∀ u I' H', Ext I H I' H' → RK.holds g (k c) H u I' H' → Q u H') → r v w H Q)
    (hb : ∀ c q, k c ≠ .bw q := by intro _ _ z; cases z) : ME X g B S (.BinOp e1 op e2 pos) (m1 >>= fun a => m2 >>= fun b => f a b) k := by
  refine ⟨fun c q => ?_⟩
  obtain ⟨a, q1, q⟩ := bind_some q
  obtain ⟨b, q2, q⟩ := bind_some q
  refine pe_imp (pe_op ho (h1.run a q1) (h2.run b q2)) fun σ H Q ⟨I, hh, kk⟩ => ⟨I, hh, fun v I1 H1 x1 v1 => ⟨I1, hh.ext x1, fun w I2 H2 x2 v2 => ?_⟩⟩
  exact hr a b c q v w I2 H2 _ _ Q x2.s (RK.ext v1 x2) v2 fun u I3 H3 x3 v3 => kk u I3 H3 ((x1.trans x2).trans x3) (RK.back (hb c) (x1.trans x2).h v3)
/-- a comparison: as a value and as a test -/
structure MC (X : Cx) (g : Gb) (B : Bs) (S : SL) (e : Expr) (m : Option Bool) : Prop where
  run : ∀ c, m = some c → ∃ t : TE, PE X e t ∧ PT X e (tTest t) ∧ ∀ σ H Q, rdE g B S (.im (Py.r g c)) σ H Q → t σ H Q
theorem me_cm {m : Option Bool} (h : MC X g B S e m) : ME X g B S e m (fun c => .im (Py.r g c)) := ⟨fun c q => by
  obtain ⟨t, h1, _, h3⟩ := h.run c q
  exact pe_imp h1 h3⟩
theorem mt_cm {m : Option Bool} (h : MC X g B S e m) : MT X g B S e m := ⟨fun c q => by
  obtain ⟨t, _, h2, h3⟩ := h.run c q
  exact pt_imp h2 fun σ H Q ⟨I, hh, k⟩ => h3 σ H _ ⟨I, hh, fun v I' H' x hv => ⟨c, hv, k I' H' x⟩⟩⟩
theorem MC.eq {m m' : Option Bool} (h : MC X g B S e m) (q : m = m') : MC X g B S e m' := q ▸ h
theorem mc_cmp {op : CmpOp} {r : R2} {a' b' : Type} {m1 : Option a'} {m2 : Option b'} {f : a' → b' → Option Bool} {k1 : a' → RK} {k2 : b' → RK} (ho : OpR X (compareOp op) r) (h1 : ME X g B S e1 m1 k1) (h2 : ME X g B S e2 m2 k2)
    (hr : ∀ a b c, f a b = some c → ∀ v w I H H0 H1 Q, Same I H → RK.holds g (k1 a) H0 v I H → RK.holds g (k2 b) H1 w I H → (∀ u I' H', Ext I H I' H' → RK.holds g (.im (Py.r g c)) H u I' H' → Q u H') → r v w H Q)
    (hm : behindInMarks op e2 = false := by first | exact nomark _ | rfl) : MC X g B S (.Compare e1 [op] [e2] pos) (m1 >>= fun a => m2 >>= fun b => f a b) := by
  refine ⟨fun c q => ?_⟩
  obtain ⟨a, q1, q⟩ := bind_some q
  obtain ⟨b, q2, q⟩ := bind_some q
  refine ⟨_, pe_cmpR ho (h1.run a q1) (h2.run b q2) hm, pt_cmpR ho (h1.run a q1) (h2.run b q2) hm, fun σ H Q ⟨I, hh, kk⟩ => ⟨I, hh, fun v I1 H1 x1 v1 => ⟨I1, hh.ext x1, fun w I2 H2 x2 v2 => ?_⟩⟩⟩
  exact hr a b c q v w I2 H2 _ _ Q x2.s (RK.ext v1 x2) v2 fun u I3 H3 x3 v3 => kk u I3 H3 ((x1.trans x2).trans x3) v3
variable {m m1 : Option Int} {m2 : Option Int}
abbrev KI (g : Gb) {α : Type} [Py α] : α → RK := fun a => .im (Py.r g a)
/-- ints -/
theorem me_i0 {op : Operator} {f : Int → Int → Int} (ho : OpR X (binaryOp op) (rI0 fun i j => .int (f i j))) (h1 : ME X g B S e1 m1 (KI g)) (h2 : ME X g B S e2 m2 (KI g)) :
    ME X g B S (.BinOp e1 op e2 pos) (m1 >>= fun a => m2 >>= fun b => some (f a b)) (KI g) :=
  me_bin ho h1 h2 fun a b c q v w I H H0 H1 Q s v1 v2 k => by
    cases q
    exact ⟨a, b, v1, v2, k _ _ _ (Ext.refl s) rfl⟩
theorem me_i1 {op : Operator} {f : Int → Int → Int} {C : Int → Int → Prop} {D : Int → Int → Bool} (ho : OpR X (binaryOp op) (rI C fun i j => .int (f i j))) (hD : ∀ i j, D i j = true → C i j) (h1 : ME X g B S e1 m1 (KI g)) (h2 : ME X g B S e2 m2 (KI g)) :
    ME X g B S (.BinOp e1 op e2 pos) (m1 >>= fun a => m2 >>= fun b => if D a b = true then some (f a b) else none) (KI g) :=
  me_bin ho h1 h2 fun a b c q v w I H H0 H1 Q s v1 v2 k => by
    by_cases hd : D a b = true
    · rw [if_pos hd] at q
      cases q
      exact ⟨a, b, v1, v2, hD _ _ hd, k _ _ _ (Ext.refl s) rfl⟩
    · rw [if_neg hd] at q
      cases q
theorem me_add (h1 : ME X g B S e1 m1 (KI g)) (h2 : ME X g B S e2 m2 (KI g)) : ME X g B S (.BinOp e1 .Add e2 pos) (m1 >>= fun a => m2 >>= fun b => some (a + b)) (KI g) := me_i0 op_add h1 h2
theorem me_sub (h1 : ME X g B S e1 m1 (KI g)) (h2 : ME X g B S e2 m2 (KI g)) : ME X g B S (.BinOp e1 .Sub e2 pos) (m1 >>= fun a => m2 >>= fun b => some (a - b)) (KI g) := me_i0 op_sub h1 h2
end
/-- a product that can be reckoned -/
def mulOk (i j : Int) : Bool := decide (-(2 ^ 64) < i ∧ i < 2 ^ 64) || decide (-(2 ^ 64) < j ∧ j < 2 ^ 64) || decide (i.natAbs.log2 + j.natAbs.log2 < 1000000)
def divOk (_ j : Int) : Bool := decide (0 < j ∧ j.natAbs.log2 < 9000)
def modOk (_ j : Int) : Bool := decide (0 < j)
@[irreducible] def mulO (i j : Int) : Option Int := if mulOk i j = true then some (i * j) else none
theorem mulO_eq (i j : Int) : mulO i j = if mulOk i j = true then some (i * j) else none := by unfold mulO; rfl
@[irreducible] def divO (i j : Int) : Option Int := if divOk i j = true then some (i / j) else none
theorem divO_eq (i j : Int) : divO i j = if divOk i j = true then some (i / j) else none := by unfold divO; rfl
@[irreducible] def modO (i j : Int) : Option Int := if modOk i j = true then some (i % j) else none
theorem modO_eq (i j : Int) : modO i j = if modOk i j = true then some (i % j) else none := by unfold modO; rfl
section
variable {X : Cx} {g : Gb} {B : Bs} {S : SL} {e e1 e2 e3 : Expr} {pos pos' : Pos} {α β γ δ : Type} [Py α] [Py β] [Py γ] [Py δ] {m m1 m2 : Option Int}
theorem op_mulT : OpR X (binaryOp .Mult) (rI (fun i j => mulOk i j = true) fun i j => .int (i * j)) := opI fun i j _ _ _ _ _ hc q => mul_int q (by
  unfold mulOk at hc
  rw [Bool.or_eq_true, Bool.or_eq_true, decide_eq_true_eq, decide_eq_true_eq, decide_eq_true_eq] at hc
  rcases hc with (h | h) | h
  · exact CMul.ok (.inl h)
  · exact CMul.ok (.inr h)
  · exact CMulW.ok h)
theorem me_mul (h1 : ME X g B S e1 m1 (KI g)) (h2 : ME X g B S e2 m2 (KI g)) : ME X g B S (.BinOp e1 .Mult e2 pos) (m1 >>= fun a => m2 >>= fun b => mulO a b) (KI g) := (me_i1 op_mulT (fun _ _ h => h) h1 h2).eq (by simp only [mulO_eq])
theorem me_div (h1 : ME X g B S e1 m1 (KI g)) (h2 : ME X g B S e2 m2 (KI g)) : ME X g B S (.BinOp e1 .FloorDiv e2 pos) (m1 >>= fun a => m2 >>= fun b => divO a b) (KI g) := (me_i1 op_fdivW (fun i j h => by have q : 0 < j ∧ j.natAbs.log2 < 9000 := of_decide_eq_true h; exact q) h1 h2 (D := divOk)).eq (by simp only [divO_eq])
theorem me_mod (h1 : ME X g B S e1 m1 (KI g)) (h2 : ME X g B S e2 m2 (KI g)) : ME X g B S (.BinOp e1 .Mod e2 pos) (m1 >>= fun a => m2 >>= fun b => modO a b) (KI g) := (me_i1 op_mod (fun _ _ h => of_decide_eq_true h) h1 h2 (D := modOk)).eq (by simp only [modO_eq])
/-- by a written number -/
theorem me_mulC {n : Int} (hn : decide (-(2 ^ 64) < n ∧ n < 2 ^ 64) = true) (h1 : ME X g B S e1 m1 (KI g)) (h2 : ME X g B S e2 (some n) (KI g)) : ME X g B S (.BinOp e1 .Mult e2 pos) (m1 >>= fun a => some (a * n)) (KI g) := by
  refine (me_mul h1 h2).eq ?_
  cases m1 with
  | none => rfl
  | some a =>
    show mulO a n = some (a * n)
    rw [mulO_eq, if_pos (by unfold mulOk; rw [hn]; simp)]
theorem me_mulD {n : Int} (hn : decide (-(2 ^ 64) < n ∧ n < 2 ^ 64) = true) (h1 : ME X g B S e1 (some n) (KI g)) (h2 : ME X g B S e2 m2 (KI g)) : ME X g B S (.BinOp e1 .Mult e2 pos) (m2 >>= fun a => some (n * a)) (KI g) := by
  refine (me_mul h1 h2).eq ?_
  cases m2 with
  | none => rfl
  | some a =>
    show mulO n a = some (n * a)
    rw [mulO_eq, if_pos (by unfold mulOk; rw [hn]; simp)]
theorem me_divC {n : Int} (hn : divOk 0 n = true) (h1 : ME X g B S e1 m1 (KI g)) (h2 : ME X g B S e2 (some n) (KI g)) : ME X g B S (.BinOp e1 .FloorDiv e2 pos) (m1 >>= fun a => some (a / n)) (KI g) := by
  refine (me_div h1 h2).eq ?_
  cases m1 with
  | none => rfl
  | some a =>
    show divO a n = some (a / n)
    rw [divO_eq, if_pos (show divOk a n = true from hn)]
theorem me_modC {n : Int} (hn : modOk 0 n = true) (h1 : ME X g B S e1 m1 (KI g)) (h2 : ME X g B S e2 (some n) (KI g)) : ME X g B S (.BinOp e1 .Mod e2 pos) (m1 >>= fun a => some (a % n)) (KI g) := by
  refine (me_mod h1 h2).eq ?_
  cases m1 with
  | none => rfl
  | some a =>
    show modO a n = some (a % n)
    rw [modO_eq, if_pos (show modOk a n = true from hn)]
theorem me_neg (h1 : ME X g B S e1 m1 (KI g)) : ME X g B S (.UnaryOp .USub e1 pos) (m1 >>= fun a => some (-a)) (KI g) := by
  refine ⟨fun c q => ?_⟩
  obtain ⟨a, q1, q⟩ := bind_some q
  cases q
  refine pe_imp (pe_un un_neg (h1.run a q1)) fun σ H Q ⟨I, hh, kk⟩ => ⟨I, hh, fun v I1 H1 x1 v1 => ⟨a, v1, kk _ I1 H1 x1 rfl⟩⟩
/-- comparisons of ints -/
theorem mc_ci {op : CmpOp} {f : Int → Int → Bool} (ho : OpR X (compareOp op) (rI0 fun i j => .bl (f i j))) (h1 : ME X g B S e1 m1 (KI g)) (h2 : ME X g B S e2 m2 (KI g)) (hm : behindInMarks op e2 = false) :
    MC X g B S (.Compare e1 [op] [e2] pos) (m1 >>= fun a => m2 >>= fun b => some (f a b)) :=
  mc_cmp ho h1 h2 (fun a b c q v w I H H0 H1 Q s v1 v2 k => by
    cases q
    exact ⟨a, b, v1, v2, k _ _ _ (Ext.refl s) rfl⟩) hm
theorem mc_lt (h1 : ME X g B S e1 m1 (KI g)) (h2 : ME X g B S e2 m2 (KI g)) : MC X g B S (.Compare e1 [.Lt] [e2] pos) (m1 >>= fun a => m2 >>= fun b => some (decide (a < b))) := mc_ci op_lt h1 h2 (nomark _)
theorem mc_le (h1 : ME X g B S e1 m1 (KI g)) (h2 : ME X g B S e2 m2 (KI g)) : MC X g B S (.Compare e1 [.LtE] [e2] pos) (m1 >>= fun a => m2 >>= fun b => some (decide (a ≤ b))) := mc_ci op_le h1 h2 (nomark _)
theorem mc_gt (h1 : ME X g B S e1 m1 (KI g)) (h2 : ME X g B S e2 m2 (KI g)) : MC X g B S (.Compare e1 [.Gt] [e2] pos) (m1 >>= fun a => m2 >>= fun b => some (decide (b < a))) := mc_ci op_gt h1 h2 (nomark _)
theorem mc_ge (h1 : ME X g B S e1 m1 (KI g)) (h2 : ME X g B S e2 m2 (KI g)) : MC X g B S (.Compare e1 [.GtE] [e2] pos) (m1 >>= fun a => m2 >>= fun b => some (decide (b ≤ a))) := mc_ci op_ge h1 h2 (nomark _)
end
end T
set_option Elab.async false
set_option linter.all false
set_option maxRecDepth 100000
namespace T
open PySem PySem.Spec PyProof.Rows L2

/-! data that == reads: PySem.W.Datum, and how it stands in the abstract heap -/
class Pd (α : Type) [Py α] [DecidableEq α] extends PySem.W.Datum α where
  dp : ∀ {g : Gb} {a : α} {I : Hp} {v : V}, (Py.r g a).p I v → Dp g.K I v (toD a)
instance : Pd Int where
  dp := fun h => by cases h; exact .int _
instance : Pd Bool where
  dp := fun h => by cases h; exact .bl _
instance : Pd Str where
  dp := fun h => by cases h; exact .str _
instance : Pd Unit where
  dp := fun h => by cases h; exact .non
theorem dp_mono {K : PySem.W.Frag} {H H' : Hp} (s : Same H H') : ∀ {d : PyData} {v : V}, Dp K H v d → Dp K H' v d := by
  intro d
  refine PyData.rec (motive_1 := fun d => ∀ {v : V}, Dp K H v d → Dp K H' v d) (motive_2 := fun ds => ∀ {vs : List V}, DpAll K H vs ds → DpAll K H' vs ds) (motive_3 := fun _ => True) (motive_4 := fun _ => True)
    ?_ ?_ ?_ ?_ ?_ ?_ ?_ ?_ ?_ ?_ ?_ ?_ d
  · intro v h; cases h; exact .non
  · intro b v h; cases h; exact .bl _
  · intro b v h; cases h; exact .int _
  · intro b v h; cases h; exact .str _
  · intro xs ih v h
    cases h with
    | lst h1 h2 => exact .lst (s.seq h1) (ih h2)
  · intro xs ih v h
    cases h with
    | tup h1 h2 => exact .tup (seqT s h1) (ih h2)
  · intro kvs _ v h; cases h
  · intro vs h; cases h; exact .nil
  · intro x xs i1 i2 vs h
    cases h with
    | cons h1 h2 => exact .cons (i1 h1) (i2 h2)
  · trivial
  · intros; trivial
  · intros; trivial
section
variable {α β γ δ : Type} [Py α] [Py β] [Py γ] [Py δ] [DecidableEq α] [DecidableEq β] [DecidableEq γ] [DecidableEq δ] [Pd α] [Pd β] [Pd γ] [Pd δ]
open PySem.W
theorem dp_all {g : Gb} {I : Hp} : ∀ {as : List α} {vs : List V}, Paired (fun a v => (Py.r g a).p I v) as vs → DpAll g.K I vs (as.map Datum.toD)
  | _, _, .nil => .nil
  | _, _, .cons h t => .cons (Pd.dp h) (dp_all t)
theorem plain_all : ∀ as : List α, PyData.plainAll (as.map Datum.toD) = true
  | [] => rfl
  | a :: as => by
    show (PyData.plain (Datum.toD a) && PyData.plainAll (as.map Datum.toD)) = true
    rw [Datum.plain a, plain_all as]; rfl
theorem depth_all : ∀ as : List α, PyData.depthAll (as.map Datum.toD) ≤ Datum.depth α
  | [] => Nat.zero_le _
  | a :: as => by
    show max (PyData.depth (Datum.toD a)) (PyData.depthAll (as.map Datum.toD)) ≤ _
    exact Nat.max_le.mpr ⟨Datum.depth_le a, depth_all as⟩
theorem eqv_all : ∀ as bs : List α, PyData.eqvAll (as.map Datum.toD) (bs.map Datum.toD) = decide (as = bs)
  | [], [] => rfl
  | [], b :: bs => by
    rw [decide_eq_false (by intro z; cases z)]; rfl
  | a :: as, [] => by
    rw [decide_eq_false (by intro z; cases z)]; rfl
  | a :: as, b :: bs => by
    show (PyData.eqv (Datum.toD a) (Datum.toD b) && PyData.eqvAll (as.map Datum.toD) (bs.map Datum.toD)) = _
    rw [Datum.eqv, eqv_all as bs, Bool.eq_iff_iff]
    simp
instance : Pd (List α) where
  dp := fun {g a I v} h => by
    obtain ⟨l, vs, rfl, h1, h2⟩ := h
    exact .lst h1 (dp_all h2.2)
instance : Datum (T2 α β) where
  toD := fun t => .tuple [Datum.toD t.x0, Datum.toD t.x1]
  plain := fun t => by simp [PyData.plain, PyData.plainAll, Datum.plain]
  eqv := fun a b => by
    obtain ⟨a0, a1⟩ := a
    obtain ⟨b0, b1⟩ := b
    rw [Bool.eq_iff_iff]
    simp [PyData.eqv, PyData.eqvAll, Datum.eqv]
  depth := max (Datum.depth α) (Datum.depth β) + 1
  depth_le := fun t => by
    have h0 := Datum.depth_le t.x0
    have h1 := Datum.depth_le t.x1
    simp only [PyData.depth, PyData.depthAll]
    omega
instance : Pd (T2 α β) where
  dp := fun {g a I v} h => by
    obtain ⟨p, x, y, rfl, h0, h1, h2⟩ := h
    exact .tup h0 (.cons (Pd.dp h1) (.cons (Pd.dp h2) .nil))
instance : Datum (T3 α β γ) where
  toD := fun t => .tuple [Datum.toD t.x0, Datum.toD t.x1, Datum.toD t.x2]
  plain := fun t => by simp [PyData.plain, PyData.plainAll, Datum.plain]
  eqv := fun a b => by
    obtain ⟨a0, a1, a2⟩ := a
    obtain ⟨b0, b1, b2⟩ := b
    rw [Bool.eq_iff_iff]
    simp [PyData.eqv, PyData.eqvAll, Datum.eqv]
  depth := max (Datum.depth α) (max (Datum.depth β) (Datum.depth γ)) + 1
  depth_le := fun t => by
    have h0 := Datum.depth_le t.x0
    have h1 := Datum.depth_le t.x1
    have h2 := Datum.depth_le t.x2
    simp only [PyData.depth, PyData.depthAll]
    omega
instance : Pd (T3 α β γ) where
  dp := fun {g a I v} h => by
    obtain ⟨p, x, y, z, rfl, h0, h1, h2, h3⟩ := h
    exact .tup h0 (.cons (Pd.dp h1) (.cons (Pd.dp h2) (.cons (Pd.dp h3) .nil)))
instance : Datum (T4 α β γ δ) where
  toD := fun t => .tuple [Datum.toD t.x0, Datum.toD t.x1, Datum.toD t.x2, Datum.toD t.x3]
  plain := fun t => by simp [PyData.plain, PyData.plainAll, Datum.plain]
  eqv := fun a b => by
    obtain ⟨a0, a1, a2, a3⟩ := a
    obtain ⟨b0, b1, b2, b3⟩ := b
    rw [Bool.eq_iff_iff]
    simp [PyData.eqv, PyData.eqvAll, Datum.eqv]
  depth := max (Datum.depth α) (max (Datum.depth β) (max (Datum.depth γ) (Datum.depth δ))) + 1
  depth_le := fun t => by
    have h0 := Datum.depth_le t.x0
    have h1 := Datum.depth_le t.x1
    have h2 := Datum.depth_le t.x2
    have h3 := Datum.depth_le t.x3
    simp only [PyData.depth, PyData.depthAll]
    omega
instance : Pd (T4 α β γ δ) where
  dp := fun {g a I v} h => by
    obtain ⟨p, x, y, z, w, rfl, h0, h1, h2, h3, h4⟩ := h
    exact .tup h0 (.cons (Pd.dp h1) (.cons (Pd.dp h2) (.cons (Pd.dp h3) (.cons (Pd.dp h4) .nil))))
end
/-- what is never None -/
class NN (α : Type) [Py α] [DecidableEq α] [Pd α] : Prop where
  nn : ∀ a : α, PyData.eqv .none (PySem.W.Datum.toD a) = false ∧ PyData.eqv (PySem.W.Datum.toD a) .none = false
instance : NN Int := ⟨fun _ => ⟨rfl, rfl⟩⟩
instance : NN Bool := ⟨fun _ => ⟨rfl, rfl⟩⟩
instance : NN Str := ⟨fun _ => ⟨rfl, rfl⟩⟩
section
variable {α β γ δ : Type} [Py α] [Py β] [Py γ] [Py δ] [DecidableEq α] [DecidableEq β] [DecidableEq γ] [DecidableEq δ] [Pd α] [Pd β] [Pd γ] [Pd δ]
open PySem.W
instance : NN (List α) := ⟨fun _ => ⟨rfl, rfl⟩⟩
instance : NN (T2 α β) := ⟨fun _ => ⟨rfl, rfl⟩⟩
instance : NN (T3 α β γ) := ⟨fun _ => ⟨rfl, rfl⟩⟩
instance : NN (T4 α β γ δ) := ⟨fun _ => ⟨rfl, rfl⟩⟩
instance [NN α] : Datum (Option α) where
  toD := fun o => match o with | none => .none | some a => Datum.toD a
  plain := fun o => by
    cases o with
    | none => rfl
    | some a => exact Datum.plain a
  eqv := fun a b => by
    cases a with
    | none =>
      cases b with
      | none => rfl
      | some b =>
        rw [decide_eq_false (by intro z; cases z)]
        exact (NN.nn b).1
    | some a =>
      cases b with
      | none =>
        rw [decide_eq_false (by intro z; cases z)]
        exact (NN.nn a).2
      | some b =>
        show PyData.eqv (Datum.toD a) (Datum.toD b) = _
        rw [Datum.eqv, Bool.eq_iff_iff]
        simp
  depth := Datum.depth α
  depth_le := fun o => by
    cases o with
    | none => exact Nat.zero_le _
    | some a => exact Datum.depth_le a
instance [NN α] : Pd (Option α) where
  dp := fun {g a I v} h => by
    cases a with
    | none => cases h; exact .non
    | some a => exact Pd.dp (α := α) h
end
section
variable {X : Cx}
open PySem.W PySem.SeqAt
def rEqP (K : PySem.W.Frag) : R2 := fun x y H Q => ∃ d e, Dp K H x d ∧ Dp K H y e ∧ d.plain = true ∧ e.plain = true ∧ d.depth ≤ 64 ∧ Q (.bl (PyData.eqv d e)) H
def rNeP (K : PySem.W.Frag) : R2 := fun x y H Q => ∃ d e, Dp K H x d ∧ Dp K H y e ∧ d.plain = true ∧ e.plain = true ∧ d.depth ≤ 64 ∧ Q (.bl (!PyData.eqv d e)) H
theorem op_eqP (hu : X.A.units + 64 < cLine) : OpR X (compareOp .Eq) (rEqP X.K) := by
  intro pins s σ H x y v u Q I rx ry h
  obtain ⟨d, e, hd, he, sd, se, dd, q⟩ := h
  obtain ⟨as, r1⟩ := Dp.reads I d x v hd rx
  obtain ⟨bs, r2⟩ := Dp.reads I e y u he ry
  exact eq_plain r1 r2 sd se (by have := Nat.min_le_left d.depth e.depth; omega) ⟨.bl _, H, I, rfl, q⟩
theorem op_neP (hu : X.A.units + 64 < cLine) : OpR X (compareOp .NotEq) (rNeP X.K) := by
  intro pins s σ H x y v u Q I rx ry h
  obtain ⟨d, e, hd, he, sd, se, dd, q⟩ := h
  obtain ⟨as, r1⟩ := Dp.reads I d x v hd rx
  obtain ⟨bs, r2⟩ := Dp.reads I e y u he ry
  exact ne_plain r1 r2 sd se (by have := Nat.min_le_left d.depth e.depth; omega) ⟨.bl _, H, I, rfl, q⟩
def rInP (K : PySem.W.Frag) (neg : Bool) : R2 := fun x y H Q => ∃ d ds, Dp K H x d ∧ (Dp K H y (.list ds) ∨ Dp K H y (.tuple ds)) ∧ d.plain = true ∧ PyData.plainAll ds = true ∧ d.depth ≤ 62 ∧ Q (.bl (if neg then !(ds.any fun y => PyData.eqv y d) else ds.any fun y => PyData.eqv y d)) H
theorem op_inP (hu : X.A.units + 64 < cLine) : OpR X (compareOp .In) (rInP X.K false) := by
  intro pins s σ H x y v u Q I rx ry h
  obtain ⟨d, ds, hd, he, sd, se, dd, q⟩ := h
  obtain ⟨as, r1⟩ := Dp.reads I d x v hd rx
  rcases he with he | he
  · obtain ⟨bs, r2⟩ := Dp.reads I _ y u he ry
    exact in_list_data r2 r1 se sd (by have := Nat.min_le_right (PyData.depthAll ds) d.depth; omega) ⟨.bl _, H, I, rfl, q⟩
  · obtain ⟨bs, r2⟩ := Dp.reads I _ y u he ry
    exact in_tuple_data r2 r1 se sd (by have := Nat.min_le_right (PyData.depthAll ds) d.depth; omega) ⟨.bl _, H, I, rfl, q⟩
theorem op_niP (hu : X.A.units + 64 < cLine) : OpR X (compareOp .NotIn) (rInP X.K true) := by
  intro pins s σ H x y v u Q I rx ry h
  obtain ⟨d, ds, hd, he, sd, se, dd, q⟩ := h
  obtain ⟨as, r1⟩ := Dp.reads I d x v hd rx
  rcases he with he | he
  · obtain ⟨bs, r2⟩ := Dp.reads I _ y u he ry
    exact notIn_list_data r2 r1 se sd (by have := Nat.min_le_right (PyData.depthAll ds) d.depth; omega) ⟨.bl _, H, I, rfl, q⟩
  · obtain ⟨bs, r2⟩ := Dp.reads I _ y u he ry
    exact notIn_tuple_data r2 r1 se sd (by have := Nat.min_le_right (PyData.depthAll ds) d.depth; omega) ⟨.bl _, H, I, rfl, q⟩
end
/-- the left and the right operand of == read as data: kinds im and lists -/
def DR {α : Type} [Py α] [DecidableEq α] [Pd α] (g : Gb) (k : α → RK) : Prop := ∀ a H v I' H', Same I' H' → RK.holds g (k a) H v I' H' → Dp g.K H' v (PySem.W.Datum.toD a)
section
variable {α β : Type} [Py α] [DecidableEq α] [Pd α] [Py β] [DecidableEq β] [Pd β] {g : Gb}
open PySem.W
theorem dr_im : DR (α := α) g (fun a => .im (Py.r g a)) := fun a H v I' H' s h => dp_mono s (Pd.dp h)
theorem dr_lr {k : List α → RK} (h : LR g k) : DR g k := fun a H v I' H' s q => by
  obtain ⟨l, vs, rfl, h1, h2⟩ := h a H v I' H' s q
  exact .lst h1 (dp_all ((rl g a).mono s h2).2)
variable {X : Cx} {B : Bs} {S : SL} {e e1 e2 e3 : Expr} {pos pos' : Pos} {m1 m2 : Option α} {k1 k2 : α → RK}
theorem mc_eq (hu : X.A.units + 64 < cLine) (hd : Datum.depth α ≤ 64) (h1 : ME X g B S e1 m1 k1) (h2 : ME X g B S e2 m2 k2) (r1 : DR g k1 := by first | exact dr_im | exact dr_lr lr_fr | exact dr_lr lr_rd) (r2 : DR g k2 := by first | exact dr_im | exact dr_lr lr_fr | exact dr_lr lr_rd)
    (hg : X.K = g.K := by rfl) : MC X g B S (.Compare e1 [.Eq] [e2] pos) (m1 >>= fun a => m2 >>= fun b => some (decide (a = b))) :=
  mc_cmp (op_eqP hu) h1 h2 (fun a b c q v w I H H0 H1 Q s v1 v2 k => by
    cases q
    refine ⟨_, _, by rw [hg]; exact r1 a _ _ _ _ s v1, by rw [hg]; exact r2 b _ _ _ _ s v2, Datum.plain a, Datum.plain b, Nat.le_trans (Datum.depth_le a) hd, ?_⟩
    rw [Datum.eqv]
    exact k _ _ _ (Ext.refl s) rfl) (nomark _)
theorem mc_ne (hu : X.A.units + 64 < cLine) (hd : Datum.depth α ≤ 64) (h1 : ME X g B S e1 m1 k1) (h2 : ME X g B S e2 m2 k2) (r1 : DR g k1 := by first | exact dr_im | exact dr_lr lr_fr | exact dr_lr lr_rd) (r2 : DR g k2 := by first | exact dr_im | exact dr_lr lr_fr | exact dr_lr lr_rd)
    (hg : X.K = g.K := by rfl) : MC X g B S (.Compare e1 [.NotEq] [e2] pos) (m1 >>= fun a => m2 >>= fun b => some (!decide (a = b))) :=
  mc_cmp (op_neP hu) h1 h2 (fun a b c q v w I H H0 H1 Q s v1 v2 k => by
    cases q
    refine ⟨_, _, by rw [hg]; exact r1 a _ _ _ _ s v1, by rw [hg]; exact r2 b _ _ _ _ s v2, Datum.plain a, Datum.plain b, Nat.le_trans (Datum.depth_le a) hd, ?_⟩
    rw [Datum.eqv]
    exact k _ _ _ (Ext.refl s) rfl) (nomark _)
theorem any_dec (a : α) : ∀ xs : List α, ((xs.map Datum.toD).any fun y => PyData.eqv y (Datum.toD a)) = decide (a ∈ xs)
  | [] => by simp
  | x :: xs => by
    rw [List.map_cons, List.any_cons, any_dec a xs, Datum.eqv, Bool.eq_iff_iff, Bool.or_eq_true, decide_eq_true_eq, decide_eq_true_eq, decide_eq_true_eq, List.mem_cons]
    exact ⟨fun h => h.imp (fun z => z.symm) id, fun h => h.imp (fun z => z.symm) id⟩
theorem mc_in {m2 : Option (List α)} {k2 : List α → RK} (hu : X.A.units + 64 < cLine) (hd : Datum.depth α ≤ 62) (h1 : ME X g B S e1 m1 k1) (h2 : ME X g B S e2 m2 k2) (r1 : DR g k1 := by first | exact dr_im | exact dr_lr lr_fr | exact dr_lr lr_rd) (r2 : LR g k2 := by first | exact lr_im | exact lr_fr | exact lr_rd)
    (hm : behindInMarks .In e2 = false := by rfl) (hg : X.K = g.K := by rfl) : MC X g B S (.Compare e1 [.In] [e2] pos) (m1 >>= fun a => m2 >>= fun b => some (decide (a ∈ b))) :=
  mc_cmp (op_inP hu) h1 h2 (fun a b c q v w I H H0 H1 Q s v1 v2 k => by
    cases q
    obtain ⟨l, vs, rfl, h1, h2⟩ := r2 b _ _ _ _ s v2
    refine ⟨_, b.map Datum.toD, by rw [hg]; exact r1 a _ _ _ _ s v1, .inl (by rw [hg]; exact .lst h1 (dp_all ((rl g b).mono s h2).2)), Datum.plain a, plain_all b, Nat.le_trans (Datum.depth_le a) hd, ?_⟩
    show Q (.bl _) H
    rw [if_neg Bool.false_ne_true, any_dec]
    exact k _ _ _ (Ext.refl s) rfl) hm
theorem mc_ni {m2 : Option (List α)} {k2 : List α → RK} (hu : X.A.units + 64 < cLine) (hd : Datum.depth α ≤ 62) (h1 : ME X g B S e1 m1 k1) (h2 : ME X g B S e2 m2 k2) (r1 : DR g k1 := by first | exact dr_im | exact dr_lr lr_fr | exact dr_lr lr_rd) (r2 : LR g k2 := by first | exact lr_im | exact lr_fr | exact lr_rd)
    (hm : behindInMarks .NotIn e2 = false := by rfl) (hg : X.K = g.K := by rfl) : MC X g B S (.Compare e1 [.NotIn] [e2] pos) (m1 >>= fun a => m2 >>= fun b => some (!decide (a ∈ b))) :=
  mc_cmp (op_niP hu) h1 h2 (fun a b c q v w I H H0 H1 Q s v1 v2 k => by
    cases q
    obtain ⟨l, vs, rfl, h1, h2⟩ := r2 b _ _ _ _ s v2
    refine ⟨_, b.map Datum.toD, by rw [hg]; exact r1 a _ _ _ _ s v1, .inl (by rw [hg]; exact .lst h1 (dp_all ((rl g b).mono s h2).2)), Datum.plain a, plain_all b, Nat.le_trans (Datum.depth_le a) hd, ?_⟩
    show Q (.bl (!_)) H
    rw [any_dec]
    exact k _ _ _ (Ext.refl s) rfl) hm
end
end T
set_option Elab.async false
set_option linter.all false
set_option maxRecDepth 100000
namespace T
open PySem PySem.Spec PyProof.Rows L2

/-- never None -/
class Nz (α : Type) [Py α] : Prop where
  nz : ∀ {g : Gb} {a : α} {I : Hp} {v : V}, (Py.r g a).p I v → v ≠ .non
instance : Nz Int := ⟨fun h z => by cases h; cases z⟩
instance : Nz Bool := ⟨fun h z => by cases h; cases z⟩
instance : Nz Str := ⟨fun h z => by cases h; cases z⟩
instance {α : Type} [Py α] : Nz (List α) := ⟨fun h z => by obtain ⟨_, _, rfl, _⟩ := h; cases z⟩
instance {α β : Type} [Py α] [Py β] : Nz (T2 α β) := ⟨fun h z => by obtain ⟨_, _, _, rfl, _⟩ := h; cases z⟩
instance {α β γ : Type} [Py α] [Py β] [Py γ] : Nz (T3 α β γ) := ⟨fun h z => by obtain ⟨_, _, _, _, rfl, _⟩ := h; cases z⟩
instance {α β γ δ : Type} [Py α] [Py β] [Py γ] [Py δ] : Nz (T4 α β γ δ) := ⟨fun h z => by obtain ⟨_, _, _, _, _, rfl, _⟩ := h; cases z⟩

section
variable {X : Cx} {g : Gb} {B : Bs} {S : SL} {e e1 e2 e3 : Expr} {es : List Expr} {pos pos' : Pos} {α β γ δ : Type} [Py α] [Py β] [Py γ] [Py δ]
/-! tests -/
theorem mt_val {m : Option Bool} (h : ME X g B S e m (KI g)) (he : ∀ whole, isTrue e X.env whole = (do let v ← whole; standAt e.pos; holding [v] (truthy v)) := by intro _; rfl) : MT X g B S e m :=
  ⟨fun b q => pt_imp (pt_val (h.run b q) he) fun σ H Q ⟨I, hh, k⟩ => ⟨I, hh, fun v I' H' x hv => ⟨b, hv, k I' H' x⟩⟩⟩
theorem mt_not {m : Option Bool} (h : MT X g B S e m) : MT X g B S (.UnaryOp .Not e pos) (m >>= fun b => some (!b)) := by
  refine ⟨fun b q => ?_⟩
  obtain ⟨c, q1, q2⟩ := bind_some q
  cases q2
  exact pt_imp (pt_not (h.run c q1)) fun σ H Q ⟨I, hh, k⟩ => ⟨I, hh, fun I' H' x => k I' H' x⟩
theorem mw_and1 {m : Option Bool} (h : MT X g B S e m) : MW X g B S (.BoolOp .And [e] pos) m := ⟨fun b q => pw_and1 (h.run b q)⟩
theorem mw_or1 {m : Option Bool} (h : MT X g B S e m) : MW X g B S (.BoolOp .Or [e] pos) m := ⟨fun b q => pw_or1 (h.run b q)⟩
theorem mw_and {m1 m2 : Option Bool} (h1 : MT X g B S e1 m1) (h2 : MW X g B S (.BoolOp .And (e2 :: es) pos) m2) : MW X g B S (.BoolOp .And (e1 :: e2 :: es) pos) (m1 >>= fun c => if c = true then m2 else some false) := by
  refine ⟨fun b q => ?_⟩
  obtain ⟨c, q1, q2⟩ := bind_some q
  cases c with
  | true =>
    rw [if_pos rfl] at q2
    refine pw_imp (pw_and (h1.run _ q1) (h2.run _ q2)) fun σ H Q ⟨I, hh, k⟩ => ⟨I, hh, fun I1 H1 x1 => ?_⟩
    exact iteT ⟨I1, hh.ext x1, fun I2 H2 x2 => k I2 H2 (x1.trans x2)⟩
  | false =>
    rw [if_neg Bool.false_ne_true] at q2
    cases q2
    refine pw_imp (pw_and (tB' := fun _ _ _ => False) (h1.run _ q1) ⟨fun _ _ _ _ _ _ _ z => z.elim⟩) fun σ H Q ⟨I, hh, k⟩ => ⟨I, hh, fun I1 H1 x1 => ?_⟩
    exact iteF (k I1 H1 x1)
theorem mw_or {m1 m2 : Option Bool} (h1 : MT X g B S e1 m1) (h2 : MW X g B S (.BoolOp .Or (e2 :: es) pos) m2) : MW X g B S (.BoolOp .Or (e1 :: e2 :: es) pos) (m1 >>= fun c => if c = true then some true else m2) := by
  refine ⟨fun b q => ?_⟩
  obtain ⟨c, q1, q2⟩ := bind_some q
  cases c with
  | false =>
    rw [if_neg Bool.false_ne_true] at q2
    refine pw_imp (pw_or (h1.run _ q1) (h2.run _ q2)) fun σ H Q ⟨I, hh, k⟩ => ⟨I, hh, fun I1 H1 x1 => ?_⟩
    exact iteF ⟨I1, hh.ext x1, fun I2 H2 x2 => k I2 H2 (x1.trans x2)⟩
  | true =>
    rw [if_pos rfl] at q2
    cases q2
    refine pw_imp (pw_or (tB' := fun _ _ _ => False) (h1.run _ q1) ⟨fun _ _ _ _ _ _ _ z => z.elim⟩) fun σ H Q ⟨I, hh, k⟩ => ⟨I, hh, fun I1 H1 x1 => ?_⟩
    exact iteT (k I1 H1 x1)
theorem MW.eq {m m' : Option Bool} (h : MW X g B S e m) (q : m = m') : MW X g B S e m' := q ▸ h
theorem mw_andP {a b : Bool} (h1 : MT X g B S e1 (some a)) (h2 : MW X g B S (.BoolOp .And (e2 :: es) pos) (some b)) : MW X g B S (.BoolOp .And (e1 :: e2 :: es) pos) (some (a && b)) := (mw_and h1 h2).eq (by cases a <;> rfl)
theorem mw_orP {a b : Bool} (h1 : MT X g B S e1 (some a)) (h2 : MW X g B S (.BoolOp .Or (e2 :: es) pos) (some b)) : MW X g B S (.BoolOp .Or (e1 :: e2 :: es) pos) (some (a || b)) := (mw_or h1 h2).eq (by cases a <;> rfl)
theorem mt_w {m : Option Bool} (h : MW X g B S e m) : MT X g B S e m := ⟨fun b q => (h.run b q).pt⟩
/-- and, or, not as values -/
theorem me_one {op} {m : Option Bool} (h : ME X g B S e m (KI g)) : ME X g B S (.BoolOp op [e] pos) m (KI g) := ⟨fun b q => pe_one (h.run b q)⟩
theorem me_and {m1 m2 : Option Bool} (h1 : ME X g B S e1 m1 (KI g)) (h2 : ME X g B S (.BoolOp .And (e2 :: es) pos) m2 (KI g)) : ME X g B S (.BoolOp .And (e1 :: e2 :: es) pos) (m1 >>= fun c => if c = true then m2 else some false) (KI g) := by
  refine ⟨fun b q => ?_⟩
  obtain ⟨c, q1, q2⟩ := bind_some q
  cases c with
  | true =>
    rw [if_pos rfl] at q2
    refine pe_imp (pe_and (h1.run _ q1) (h2.run _ q2)) fun σ H Q ⟨I, hh, k⟩ => ⟨I, hh, fun v I1 H1 x1 hv => ⟨true, hv, ?_⟩⟩
    exact iteT ⟨I1, hh.ext x1, fun w I2 H2 x2 hw => k w I2 H2 (x1.trans x2) hw⟩
  | false =>
    rw [if_neg Bool.false_ne_true] at q2
    cases q2
    refine pe_imp (pe_and (tb := fun _ _ _ => False) (h1.run _ q1) ⟨fun _ _ _ _ _ _ z => z.elim⟩) fun σ H Q ⟨I, hh, k⟩ => ⟨I, hh, fun v I1 H1 x1 hv => ⟨false, hv, ?_⟩⟩
    exact iteF (k _ I1 H1 x1 rfl)
theorem me_or {m1 m2 : Option Bool} (h1 : ME X g B S e1 m1 (KI g)) (h2 : ME X g B S (.BoolOp .Or (e2 :: es) pos) m2 (KI g)) : ME X g B S (.BoolOp .Or (e1 :: e2 :: es) pos) (m1 >>= fun c => if c = true then some true else m2) (KI g) := by
  refine ⟨fun b q => ?_⟩
  obtain ⟨c, q1, q2⟩ := bind_some q
  cases c with
  | false =>
    rw [if_neg Bool.false_ne_true] at q2
    refine pe_imp (pe_or (h1.run _ q1) (h2.run _ q2)) fun σ H Q ⟨I, hh, k⟩ => ⟨I, hh, fun v I1 H1 x1 hv => ⟨false, hv, ?_⟩⟩
    exact iteF ⟨I1, hh.ext x1, fun w I2 H2 x2 hw => k w I2 H2 (x1.trans x2) hw⟩
  | true =>
    rw [if_pos rfl] at q2
    cases q2
    refine pe_imp (pe_or (tb := fun _ _ _ => False) (h1.run _ q1) ⟨fun _ _ _ _ _ _ z => z.elim⟩) fun σ H Q ⟨I, hh, k⟩ => ⟨I, hh, fun v I1 H1 x1 hv => ⟨true, hv, ?_⟩⟩
    exact iteT (k _ I1 H1 x1 rfl)
theorem me_andP {a b : Bool} (h1 : ME X g B S e1 (some a) (KI g)) (h2 : ME X g B S (.BoolOp .And (e2 :: es) pos) (some b) (KI g)) : ME X g B S (.BoolOp .And (e1 :: e2 :: es) pos) (some (a && b)) (KI g) := (me_and h1 h2).eq (by cases a <;> rfl)
theorem me_orP {a b : Bool} (h1 : ME X g B S e1 (some a) (KI g)) (h2 : ME X g B S (.BoolOp .Or (e2 :: es) pos) (some b) (KI g)) : ME X g B S (.BoolOp .Or (e1 :: e2 :: es) pos) (some (a || b)) (KI g) := (me_or h1 h2).eq (by cases a <;> rfl)
theorem me_not {m : Option Bool} (h : ME X g B S e m (KI g)) : ME X g B S (.UnaryOp .Not e pos) (m >>= fun b => some (!b)) (KI g) := by
  refine ⟨fun b q => ?_⟩
  obtain ⟨c, q1, q2⟩ := bind_some q
  cases q2
  exact pe_imp (pe_not (h.run c q1)) fun σ H Q ⟨I, hh, k⟩ => ⟨I, hh, fun v I' H' x hv => ⟨c, hv, k _ I' H' x rfl⟩⟩
/-- a < b < c, of ints -/
theorem mc_chn {op op' : CmpOp} {f f' : Int → Int → Bool} {m1 m2 m3 : Option Int} (ho : OpR X (compareOp op) (rI0 fun i j => .bl (f i j))) (ho' : OpR X (compareOp op') (rI0 fun i j => .bl (f' i j)))
    (h1 : ME X g B S e1 m1 (KI g)) (h2 : ME X g B S e2 m2 (KI g)) (h3 : ME X g B S e3 m3 (KI g)) (hm : lastMarks [op, op'] [e2, e3] = false := by with_unfolding_all rfl) :
    MC X g B S (.Compare e1 [op, op'] [e2, e3] pos) (m1 >>= fun a => m2 >>= fun b => if f a b = true then m3 >>= fun c => some (f' b c) else some false) := by
  refine ⟨fun r q => ?_⟩
  obtain ⟨a, q1, q⟩ := bind_some q
  obtain ⟨b, q2, q⟩ := bind_some q
  by_cases hf : f a b = true
  · rw [if_pos hf] at q
    obtain ⟨c, q3, q⟩ := bind_some q
    cases q
    refine ⟨_, pe_chain ho ho' (h1.run a q1) (h2.run b q2) (h3.run c q3) hm, pt_chain ho ho' (h1.run a q1) (h2.run b q2) (h3.run c q3) hm, fun σ H Q ⟨I, hh, k⟩ => ⟨I, hh, fun v I1 H1 x1 v1 => ⟨I1, hh.ext x1, fun w I2 H2 x2 v2 => ?_⟩⟩⟩
    refine ⟨a, b, v1, v2, _, rfl, ?_⟩
    rw [if_pos hf]
    exact ⟨I2, hh.ext (x1.trans x2), fun u I3 H3 x3 v3 => ⟨b, c, v2, v3, k _ I3 H3 ((x1.trans x2).trans x3) rfl⟩⟩
  · rw [if_neg hf] at q
    cases q
    refine ⟨_, pe_chain (tc := fun _ _ _ => False) ho ho' (h1.run a q1) (h2.run b q2) ⟨fun _ _ _ _ _ _ z => z.elim⟩ hm, pt_chain (tc := fun _ _ _ => False) ho ho' (h1.run a q1) (h2.run b q2) ⟨fun _ _ _ _ _ _ z => z.elim⟩ hm, fun σ H Q ⟨I, hh, k⟩ => ⟨I, hh, fun v I1 H1 x1 v1 => ⟨I1, hh.ext x1, fun w I2 H2 x2 v2 => ?_⟩⟩⟩
    refine ⟨a, b, v1, v2, _, rfl, ?_⟩
    rw [if_neg hf]
    exact k _ I2 H2 (x1.trans x2) rfl
/-- is None, is not None -/
theorem mc_isN [Nz α] {j} {m : Option (Option α)} (h : ME X g B S e m (KI g)) : MC X g B S (.Compare e [.Is] [.Constant .none j pos'] pos) (m >>= fun o => some o.isNone) :=
  (mc_cmp op_isN h (me_unit (j := j) (pos := pos')) (f := fun o _ => some o.isNone) fun o _ c q v w I H H0 H1 Q s hv hw k => by
    cases q
    refine ⟨hw, ?_⟩
    cases o with
    | none =>
      cases hv
      exact k _ _ _ (Ext.refl s) rfl
    | some a =>
      rw [decide_eq_false (Nz.nz (α := α) hv)]
      exact k _ _ _ (Ext.refl s) rfl).eq (by cases m <;> rfl)
theorem mc_ntN [Nz α] {j} {m : Option (Option α)} (h : ME X g B S e m (KI g)) : MC X g B S (.Compare e [.IsNot] [.Constant .none j pos'] pos) (m >>= fun o => some o.isSome) :=
  (mc_cmp op_notN h (me_unit (j := j) (pos := pos')) (f := fun o _ => some o.isSome) fun o _ c q v w I H H0 H1 Q s hv hw k => by
    cases q
    refine ⟨hw, ?_⟩
    cases o with
    | none =>
      cases hv
      exact k _ _ _ (Ext.refl s) rfl
    | some a =>
      rw [decide_eq_false (Nz.nz (α := α) hv)]
      exact k _ _ _ (Ext.refl s) rfl).eq (by cases m <;> rfl)
theorem me_if {a' : Type} {mc : Option Bool} {m1 m2 : Option a'} {k : a' → RK} (hc : MT X g B S e mc) (h1 : ME X g B S e1 m1 k) (h2 : ME X g B S e2 m2 k) (hb : ∀ c q, k c ≠ .bw q := by intro _ _ z; cases z) : ME X g B S (.IfExp e e1 e2 pos) (mc >>= fun b => if b = true then m1 else m2) k := by
  refine ⟨fun r q => ?_⟩
  obtain ⟨c, q1, q2⟩ := bind_some q
  cases c with
  | true =>
    rw [if_pos rfl] at q2
    refine pe_imp (pe_ifExp (tb := fun _ _ _ => False) (hc.run _ q1) (h1.run _ q2) ⟨fun _ _ _ _ _ _ z => z.elim⟩) fun σ H Q ⟨I, hh, k⟩ => ⟨I, hh, fun I1 H1 x1 => ?_⟩
    exact iteT ⟨I1, hh.ext x1, fun w I2 H2 x2 hw => k w I2 H2 (x1.trans x2) (RK.back (hb r) x1.h hw)⟩
  | false =>
    rw [if_neg Bool.false_ne_true] at q2
    refine pe_imp (pe_ifExp (ta := fun _ _ _ => False) (hc.run _ q1) ⟨fun _ _ _ _ _ _ z => z.elim⟩ (h2.run _ q2)) fun σ H Q ⟨I, hh, k⟩ => ⟨I, hh, fun I1 H1 x1 => ?_⟩
    exact iteF ⟨I1, hh.ext x1, fun w I2 H2 x2 hw => k w I2 H2 (x1.trans x2) (RK.back (hb r) x1.h hw)⟩
end

/-! arguments -/
def Args (g : Gb) (ks : List RK) (vs : List V) (I H : Hp) : Prop := Paired (fun k v => RK.holds g k H v I H) ks vs
def rdA {ι o : Type} (g : Gb) (B : Bs) (S : SL) (dvs : List V) (args : ι → List RK) (M : ι → Option o) (r : o) : TA := fun σ H Q => ∃ I, Hold g B S σ I H ∧ ∀ a vs I' H', M a = some r → Ext I H I' H' → Args g (args a) (vs ++ dvs) I' H' → Q vs H'
structure MA {ι o : Type} (X : Cx) (g : Gb) (B : Bs) (S : SL) (es : List Expr) (dvs : List V) (args : ι → List RK) (m : Option o) (M : ι → Option o) : Prop where
  run : ∀ r, m = some r → PA X es (rdA g B S dvs args M r)
def Coe {α : Type} (g : Gb) (k k' : α → RK) : Prop := ∀ a H0 v I H, Same I H → RK.holds g (k a) H0 v I H → RK.holds g (k' a) H v I H
section
variable {X : Cx} {g : Gb} {B : Bs} {S : SL} {e e1 e2 e3 : Expr} {es : List Expr} {pos pos' : Pos} {α β γ δ : Type} [Py α] [Py β] [Py γ] [Py δ]
theorem co_im : Coe (α := α) g (KI g) (KI g) := fun _ _ _ _ _ _ h => h
theorem co_bw {k : List α → RK} (h : LR g k) : Coe g k (fun a => .bw (rl g a)) := fun a H0 v I H s q => h a H0 v I H s q
theorem pa_imp {t t' : TA} (h : PA X es t) (f : ∀ σ H Q, t' σ H Q → t σ H Q) : PA X es t' := ⟨fun pos pins s σ H Q I hw => h.run pos pins s σ H Q I (f σ H Q hw)⟩
theorem ma_nil {o : Type} {M : Unit → Option o} : MA X g B S [] [] (fun _ : Unit => []) (M ()) M :=
  ⟨fun r q => pa_imp pa_nil fun σ H Q ⟨I, hh, k⟩ => k () [] I H q (Ext.refl hh.sub) .nil⟩
/-- the rest by defaults -/
theorem ma_dfl {ι o : Type} {dvs : List V} {args : ι → List RK} {M : ι → Option o} (a : ι) (h : ∀ I H, Args g (args a) dvs I H) : MA X g B S [] dvs args (M a) M :=
  ⟨fun r q => pa_imp pa_nil fun σ H Q ⟨I, hh, k⟩ => k a [] I H q (Ext.refl hh.sub) (h I H)⟩
theorem ma_cons {ι o α' : Type} {dvs : List V} {args : ι → List RK} {m1 : Option α'} {m2 : α' → Option o} {M : α' × ι → Option o} {k k' : α' → RK} (h : ME X g B S e m1 k) (c : Coe g k k') (t : ∀ a, MA X g B S es dvs args (m2 a) (fun b => M (a, b)))
    (hs : starEach (e :: es) X.env = (false, eval e X.env) :: starEach es X.env := by rfl) : MA X g B S (e :: es) dvs (fun p : α' × ι => k' p.1 :: args p.2) (m1 >>= m2) M := by
  refine ⟨fun r q => ?_⟩
  obtain ⟨a, q1, q2⟩ := bind_some q
  refine pa_imp (pa_cons (h.run a q1) ((t a).run r q2) hs) fun σ H Q ⟨I, hh, kk⟩ => ⟨I, hh, fun v I1 H1 x1 v1 => ⟨I1, hh.ext x1, fun b vs I2 H2 hM x2 hA => ?_⟩⟩
  exact kk (a, b) (v :: vs) I2 H2 hM (x1.trans x2) (.cons (c a _ _ _ _ x2.s (RK.ext v1 x2)) hA)
end
/-! the promise of a def: a typed one -/
def spT {ι β : Type} (g : Gb) (args : ι → List RK) (M : ι → Option β) (k : β → RK) : Sp := fun vs H Q _ => ∃ I a r, Same I H ∧ Args g (args a) vs I H ∧ M a = some r ∧ ∀ v I' H', Ext I H I' H' → RK.holds g (k r) H v I' H' → Q v H'
section
variable {X : Cx} {g : Gb} {B : Bs} {S : SL} {e e1 e2 e3 : Expr} {es : List Expr} {pos pos' p : Pos} {ι β : Type} {args : ι → List RK} {M : ι → Option β} {k : β → RK} {m : Option β} {j kk : Nat} {f : Addr} {fd : FuncData} {ps : List Str} {x : Str} {dvs : List V} {ds : List Value}
theorem sp_use {H : Hp} {I : Hp} {Q : VK} {a : ι} {r : β} {vs : List V} (s : Same I H) (hA : Args g (args a) vs I H) (hM : M a = some r) (q : ∀ v I' H', Ext I H I' H' → RK.holds g (k r) H v I' H' → Q v H') {E : XK} : spT g args M k vs H Q E := ⟨I, a, r, s, hA, hM, q⟩
theorem me_call (F : FnOk X.prog X.w X.K X.mg X.base CX0 j f fd ps (spT g args M k)) (hr : Room kk X.A) (hj : j ≤ kk) (hm : X.mg x = some (.ref f)) (hk : PySem.W.keepIn X.K (.ref f) = true) (hb : Binds X.K fd ps ds) (hd : Vals dvs ds)
    (ha : MA X g B S (e :: es) dvs args m M) (hg : Gl X x := by rfl) (hdb : (x == ("__debug__" : Str)) = false := by decide) (he : starEach (e :: es) X.env = (false, eval e X.env) :: starEach es X.env := by rfl) (hpl : (backTo pos (starEach es X.env)).any (·.1) = false := by rfl)
    (hbw : ∀ c q, k c ≠ .bw q := by intro _ _ z; cases z) :
    ME X g B S (.Call (.Name x p) (e :: es) [] pos) m k := by
  refine ⟨fun r q => ?_⟩
  refine pe_imp (pe_call F (hr.mono hj) hg hm hk hb hd pass0 (ha.run r q) hdb he hpl) fun σ H Q ⟨I, hh, kc⟩ => ⟨I, hh, fun a vs I1 H1 hM x1 hA => ?_⟩
  exact sp_use x1.s hA hM fun v I2 H2 x2 hv => kc v I2 H2 (x1.trans x2) (RK.back (hbw r) x1.h hv)
theorem me_call0 {M : Unit → Option β} (F : FnOk X.prog X.w X.K X.mg X.base CX0 j f fd [] (spT g (fun _ : Unit => []) M k)) (hr : Room kk X.A) (hj : j ≤ kk) (hm : X.mg x = some (.ref f)) (hk : PySem.W.keepIn X.K (.ref f) = true) (hb : Binds X.K fd [] [])
    (hg : Gl X x := by rfl) (hdb : (x == ("__debug__" : Str)) = false := by decide) : ME X g B S (.Call (.Name x p) [] [] pos) (M ()) k := by
  refine ⟨fun r q => ?_⟩
  refine pe_imp (pe_call0 F (hr.mono hj) hg hm hk hb .nil pass0 hdb) fun σ H Q ⟨I, hh, kc⟩ => ?_
  exact ⟨I, (), r, hh.sub, Paired.nil, q, fun v I2 H2 x2 hv => kc v I2 H2 x2 hv⟩
end
end T
set_option Elab.async false
set_option linter.all false
set_option maxRecDepth 100000
namespace T
open PySem PySem.Spec PyProof.Rows L2

/-! blocks -/
/-- a base whose part that stays is known to hold J too -/
structure Ok (g : Gb) (B : Bs) (J : Hp) (S : SL) (σ : L2.St) (I H : Hp) : Prop where
  x : Ext B.I B.H I H
  j : Same J I
  h : Hold g B S σ I H
theorem Ok.ext {g : Gb} {B : Bs} {J : Hp} {S : SL} {σ : L2.St} {I H I' H' : Hp} (o : Ok g B J S σ I H) (x : Ext I H I' H') : Ok g B J S σ I' H' := ⟨o.x.trans x, o.j.trans x.i, o.h.ext x⟩
theorem Ok.put {g : Gb} {B : Bs} {J : Hp} {S : SL} {σ : L2.St} {I H I' H' : Hp} {i : Nat} {k : RK} {v : V} (o : Ok g B J S σ I H) (x : Ext I H I' H') (hk : k.slotty = true) (hv : RK.holds g k H v I' H') : Ok g B J (S.set i (some k)) (σ.set i (some v)) I' H' :=
  ⟨o.x.trans x, o.j.trans x.i, (o.h.ext x).put hk hv o.x.h fun j l q => (o.h.own q).1⟩
/-- less is known -/
inductive Wk : SL → SL → Prop
  | nil : Wk [] []
  | keep {k : Option RK} {S T : SL} : Wk S T → Wk (k :: S) (k :: T)
  | drop {k : Option RK} {S T : SL} : Wk S T → Wk (k :: S) (none :: T)
theorem Wk.len : ∀ {S T : SL}, Wk S T → S.length = T.length
  | _, _, .nil => rfl
  | _, _, .keep h => congrArg (· + 1) h.len
  | _, _, .drop h => congrArg (· + 1) h.len
theorem Wk.get : ∀ {S T : SL}, Wk S T → ∀ {i : Nat} {k : RK}, T[i]? = some (some k) → S[i]? = some (some k)
  | _, _, .nil, i, k, e => e
  | _, _, .keep h, 0, k, e => e
  | _, _, .keep h, i + 1, k, e => h.get (i := i) (by simpa using e)
  | _, _, .drop h, 0, k, e => by simp at e
  | _, _, .drop h, i + 1, k, e => h.get (i := i) (by simpa using e)
theorem Hold.wk {g : Gb} {B : Bs} {S T : SL} {σ : L2.St} {I H : Hp} (w : Wk S T) (h : Hold g B S σ I H) : Hold g B T σ I H :=
  ⟨h.len.trans w.len, h.sub, h.base, fun i k e => h.at_ i k (w.get e), fun i j l ⟨⟨q, e⟩, a⟩ ⟨⟨q', e'⟩, b⟩ => h.ne i j l ⟨⟨q, w.get e⟩, a⟩ ⟨⟨q', w.get e'⟩, b⟩, fun i q e => h.nr i q (w.get e)⟩
theorem Ok.wk {g : Gb} {B : Bs} {J : Hp} {S T : SL} {σ : L2.St} {I H : Hp} (w : Wk S T) (o : Ok g B J S σ I H) : Ok g B J T σ I H := ⟨o.x, o.j, o.h.wk w⟩
/-- what is to follow an outcome -/
abbrev KT (o : Type) := o → Ends → Prop
structure MB {o : Type} (X : Cx) (g : Gb) (B : Bs) (J : Hp) (S : SL) (sts : List Stmt) (m : Option o) (K : KT o) : Prop where
  run : ∀ r, m = some r → PSs X sts (fun D σ H => ∃ I, Ok g B J S σ I H ∧ K r D)
theorem MB.eq {o : Type} {X : Cx} {g : Gb} {B : Bs} {J : Hp} {S : SL} {sts : List Stmt} {m m' : Option o} {K : KT o} (h : MB X g B J S sts m K) (e : m = m') : MB X g B J S sts m' K := e ▸ h
theorem pss_imp {X : Cx} {sts : List Stmt} {t t' : TS} (h : PSs X sts t) (f : ∀ D σ H, t' D σ H → t D σ H) : PSs X sts t' := ⟨fun pins s σ H D I hw => h.run pins s σ H D I (f D σ H hw)⟩
/-- the def hands back a value; a block goes on; a turn of a loop -/
def Kt {β : Type} (g : Gb) (B : Bs) (k : β → RK) : KT β := fun r D => ∀ v I' H', Ext B.I B.H I' H' → RK.holds g (k r) B.H v I' H' → D.rt v H'
def Kn {β : Type} (g : Gb) (B : Bs) (J : Hp) (S' : β → SL) : KT β := fun b D => ∀ σ I H, Ok g B J (S' b) σ I H → D.nx σ H
inductive Ctl (β γ ρ : Type) where
  | nx (b : β) | rt (r : ρ) | ct (c : γ) | bk (c : γ)
def Kc {β γ ρ : Type} (g : Gb) (B : Bs) (J : Hp) (S' : β → SL) (T' : γ → SL) (k : ρ → RK) : KT (Ctl β γ ρ) := fun c D => match c with
  | .nx b => ∀ σ I H, Ok g B J (S' b) σ I H → D.nx σ H
  | .rt r => ∀ v I' H', Ext B.I B.H I' H' → RK.holds g (k r) B.H v I' H' → D.rt v H'
  | .ct b => ∀ σ I H, Ok g B J (T' b) σ I H → D.ct σ H
  | .bk b => ∀ σ I H, Ok g B J (T' b) σ I H → D.bk σ H
/-- what follows a statement that may leave: within a loop's turn; in a def -/
def Ctl.seq {β β2 γ ρ : Type} (f : β → Option (Ctl β2 γ ρ)) : Ctl β γ ρ → Option (Ctl β2 γ ρ)
  | .nx b => f b
  | .rt r => some (.rt r)
  | .ct c => some (.ct c)
  | .bk c => some (.bk c)
def Ctl.seqT {β γ ρ : Type} (f : β → Option ρ) : Ctl β γ ρ → Option ρ
  | .nx b => f b
  | .rt r => some r
  | .ct _ => none
  | .bk _ => none
def Ctl.isNx {β γ ρ : Type} : Ctl β γ ρ → Bool
  | .nx _ => true
  | _ => false
/-- K hands back r's value at (inj r) -/
def KR {ρ o : Type} (g : Gb) (B : Bs) (K : KT o) (inj : ρ → o) (k : ρ → RK) : Prop := ∀ r D, K (inj r) D → ∀ v I' H', Ext B.I B.H I' H' → RK.holds g (k r) B.H v I' H' → D.rt v H'
/-- K goes on in S' at (inj b) -/
def KX {β o : Type} (g : Gb) (B : Bs) (J : Hp) (K : KT o) (inj : β → o) (S' : β → SL) : Prop := ∀ b D, K (inj b) D → ∀ σ I H, Ok g B J (S' b) σ I H → D.nx σ H
section
variable {X : Cx} {g : Gb} {B : Bs} {J : Hp} {S : SL} {e e1 e2 e3 : Expr} {es : List Expr} {pos pos' p : Pos} {o α' β γ ρ : Type} {K : KT o} {rest : List Stmt}
theorem kr_t {k : ρ → RK} : KR g B (Kt g B k) (fun r => r) k := fun _ _ h => h
theorem kr_c {k : ρ → RK} {S' : β → SL} {T' : γ → SL} : KR g B (Kc g B J S' T' k) (fun r => Ctl.rt r) k := fun _ _ h => h
theorem kx_n {S' : β → SL} : KX g B J (Kn g B J S') (fun b => b) S' := fun _ _ h => h
theorem kx_c {k : ρ → RK} {S' : β → SL} {T' : γ → SL} : KX g B J (Kc g B J S' T' k) (fun b => Ctl.nx b) S' := fun _ _ h => h
/-- K looks at D through its four ends alone -/
theorem ps_imp {st : Stmt} {t t' : TS} (h : PS X st t) (f : ∀ D σ H, t' D σ H → t D σ H) : PS X st t' := ⟨fun pins s σ H D I hw => h.run pins s σ H D I (f D σ H hw)⟩

/-- the end of a block -/
theorem mb_nil {b : β} {S' : β → SL} {inj : β → o} (kx : KX g B J K inj S') (w : Wk S (S' b)) : MB X g B J S [] (some (inj b)) K := by
  refine ⟨fun r q => ?_⟩
  cases q
  exact pss_imp pss_nil fun D σ H ⟨I, ok, k⟩ => kx b D k σ I H (ok.wk w)
/-- a def's end -/
theorem mb_end {inj : Unit → o} (kr : ∀ r D, K (inj r) D → ∀ σ I H, Ok g B J S σ I H → D.nx σ H) : MB X g B J S [] (some (inj ())) K := by
  refine ⟨fun r q => ?_⟩
  cases q
  exact pss_imp pss_nil fun D σ H ⟨I, ok, k⟩ => kr () D k σ I H ok
/-- name = e -/
theorem mb_set (i : Nat) {x : Str} {m : Option α'} {k : α' → RK} {f : α' → Option o} (hN : X.N.Nodup) (he : ME X g B S e m k) (hb : ∀ a, MB X g B J (S.set i (some (k a))) rest (f a) K) (hk : ∀ a, (k a).slotty = true := by intro _; rfl)
    (hi : X.N[i]? = some x := by rfl) (hx : Loc X.env.scope x := by first | exact Or.inl rfl | exact Or.inr rfl) (hs : swapsWith e (some (.Name x pos')) pos.line X.env = pure false := by rfl)
    (hf : X.fn x = true ∨ X.env.scope.names.lookup x = some .local := by first | exact .inl rfl | exact .inr rfl) : MB X g B J S (.Assign [.Name x pos'] e pos :: rest) (m >>= f) K := by
  refine ⟨fun r q => ?_⟩
  obtain ⟨a, q1, q2⟩ := bind_some q
  refine pss_imp (pss_cons (ps_set hN hi hx (he.run a q1) hs hf) ((hb a).run r q2)) fun D σ H ⟨I, ok, kk⟩ => ?_
  exact ⟨I, ok.h, fun v I' H' x1 hv => ⟨I', ok.put x1 (hk a) hv, kk⟩⟩
/-- an expression alone -/
theorem mb_expr {m : Option α'} {k : α' → RK} {f : α' → Option o} (he : ME X g B S e m k) (hb : ∀ a, MB X g B J S rest (f a) K) (hs : swapsWith e none pos.line X.env = pure false := by rfl) : MB X g B J S (.Expr e pos :: rest) (m >>= f) K := by
  refine ⟨fun r q => ?_⟩
  obtain ⟨a, q1, q2⟩ := bind_some q
  refine pss_imp (pss_cons (ps_expr (he.run a q1) hs) ((hb a).run r q2)) fun D σ H ⟨I, ok, kk⟩ => ?_
  exact ⟨I, ok.h, fun v I' H' x1 hv => ⟨I', ok.ext x1, kk⟩⟩
/-- return e -/
theorem mb_ret {m : Option ρ} {k : ρ → RK} {inj : ρ → o} (kr : KR g B K inj k) (he : ME X g B S e m k) (hb : ∀ c q, k c ≠ .bw q := by intro _ _ z; cases z) : MB X g B J S [.Return (some e) pos] (m >>= fun r => some (inj r)) K := by
  refine ⟨fun r q => ?_⟩
  obtain ⟨a, q1, q2⟩ := bind_some q
  cases q2
  refine pss_imp (pss_one (ps_ret (he.run a q1))) fun D σ H ⟨I, ok, kk⟩ => ?_
  exact ⟨I, ok.h, fun v I' H' x1 hv => kr a D kk v I' H' (ok.x.trans x1) (RK.back (hb a) ok.x.h hv)⟩
theorem mb_retT {m : Option ρ} {k : ρ → RK} (he : ME X g B S e m k) (hb : ∀ c q, k c ≠ .bw q := by intro _ _ z; cases z) : MB X g B J S [.Return (some e) pos] m (Kt g B k) :=
  (mb_ret kr_t he hb).eq (by cases m <;> rfl)
/-- return an owned list -/
theorem mb_retO {α : Type} [Py α] (i : Nat) {x : Str} {as : List α} {inj : List α → o} (kr : KR g B K inj (fun as => .fr (rl g as))) (hS : S[i]? = some (some (.fr (rl g as))) := by rfl) (hN : X.N[i]? = some x := by rfl) (hv : Vis X.env.scope x := by first | exact Or.inl rfl | exact Or.inr (Or.inl rfl) | exact Or.inr (Or.inr rfl))
    (hd : (x == ("__debug__" : Str)) = false := by decide) (hcd : (x == ("__classdict__" : Str)) = false := by decide) : MB X g B J S [.Return (some (.Name x p)) pos] (some (inj as)) K := by
  refine ⟨fun r q => ?_⟩
  cases q
  refine pss_imp (pss_one (ps_ret (pe_var hN hv hd hcd))) fun D σ H ⟨I, ok, kk⟩ => ?_
  obtain ⟨v, e1, h1⟩ := ok.h.at_ i _ hS
  exact ⟨v, e1, kr as D kk v I H ok.x h1⟩
theorem mb_retN {inj : Unit → o} (kr : KR g B K inj (KI g)) : MB X g B J S [.Return none pos] (some (inj ())) K := by
  refine ⟨fun r q => ?_⟩
  cases q
  refine pss_imp (pss_one ps_retN) fun D σ H ⟨I, ok, kk⟩ => ?_
  exact kr () D kk .non I H ok.x rfl
theorem mb_brk {b : γ} {k : ρ → RK} {S' : β → SL} {T' : γ → SL} (w : Wk S (T' b)) : MB X g B J S [.Break pos] (some (Ctl.bk b)) (Kc g B J S' T' k) := by
  refine ⟨fun r q => ?_⟩
  cases q
  exact pss_imp (pss_one ps_break) fun D σ H ⟨I, ok, kk⟩ => kk σ I H (ok.wk w)
theorem mb_cnt {b : γ} {k : ρ → RK} {S' : β → SL} {T' : γ → SL} (w : Wk S (T' b)) : MB X g B J S [.Continue pos] (some (Ctl.ct b)) (Kc g B J S' T' k) := by
  refine ⟨fun r q => ?_⟩
  cases q
  exact pss_imp (pss_one ps_continue) fun D σ H ⟨I, ok, kk⟩ => kk σ I H (ok.wk w)
theorem mb_pass {m : Option o} (hb : MB X g B J S rest m K) : MB X g B J S (.Pass pos :: rest) m K := by
  refine ⟨fun r q => ?_⟩
  exact pss_imp (pss_cons ps_pass (hb.run r q)) fun D σ H ⟨I, ok, kk⟩ => ⟨I, ok, kk⟩
/-- an owned list is let go -/
theorem mb_frz {α : Type} [Py α] (i : Nat) {as : List α} {sts : List Stmt} {m : Option o} (hS : S[i]? = some (some (.fr (rl g as)))) (hb : MB X g B J (S.set i (some (.im (Py.r g as)))) sts m K) : MB X g B J S sts m K := by
  refine ⟨fun r q => ?_⟩
  refine pss_imp (hb.run r q) fun D σ H ⟨I, ok, kk⟩ => ?_
  obtain ⟨v, e1, l, vs, rfl, h1, h2, h3, h4⟩ := ok.h.at_ i _ hS
  have sI : Same I (upd I l (.lst vs)) := same_new h2
  have x : Ext B.I B.H (upd I l (.lst vs)) H := ⟨ok.x.i.trans sI, ok.x.h, fun b ob eb => by
    by_cases hb : b = l
    · subst hb
      rw [upd_same] at eb
      cases eb
      exact h3
    · rw [upd_ne hb] at eb
      exact ok.x.s _ _ eb, fun b n1 n2 => by
    have hb : b ≠ l := fun z => n1 (z ▸ h1)
    rw [upd_ne hb]
    exact ok.x.n b n1 n2⟩
  refine ⟨upd I l (.lst vs), ⟨x, ok.j.trans sI, ?_⟩, kk⟩
  have iσ : i < σ.length := (List.getElem?_eq_some_iff.mp e1).1
  refine ⟨by rw [List.length_set, ok.h.len], x.s, ok.h.base, fun j k' e => ?_, fun a b l' ⟨⟨q1, ea⟩, ha⟩ ⟨⟨q2, eb⟩, hb⟩ => ?_, fun j q e => (set_some e).elim (fun ⟨_, z, _⟩ => (by cases z)) fun ⟨_, z⟩ => ok.h.nr j q z⟩
  · rcases set_some e with ⟨a, b, c⟩ | ⟨a, b⟩
    · subst a
      cases b
      exact ⟨.ref l, e1, l, vs, rfl, SqL.of upd_same, (rl g as).mono sI h4⟩
    · obtain ⟨w, e2, h5⟩ := ok.h.at_ j k' b
      refine ⟨w, e2, ?_⟩
      cases k' with
      | im p => exact p.mono sI h5
      | fr q' =>
        obtain ⟨l', vs', rfl, g1, g2, g3, g4⟩ := h5
        have hne : l' ≠ l := fun z => by
          subst z
          exact a (ok.h.ne i j l' ⟨⟨_, hS⟩, e1⟩ ⟨⟨_, b⟩, e2⟩)
        exact ⟨l', vs', rfl, g1, by rw [upd_ne hne]; exact g2, g3, q'.mono sI g4⟩
      | bw q' =>
        obtain ⟨l', vs', rfl, g1, g4⟩ := h5
        exact ⟨l', vs', rfl, g1, q'.mono sI g4⟩
      | rd q' =>
        obtain ⟨l', vs', rfl, g1, g4⟩ := h5
        exact ⟨l', vs', rfl, g1, q'.mono sI g4⟩
  · have ua : S[a]? = some (some (RK.fr q1)) := by
      rcases set_some ea with ⟨_, z, _⟩ | ⟨_, z⟩
      · cases z
      · exact z
    have ub : S[b]? = some (some (RK.fr q2)) := by
      rcases set_some eb with ⟨_, z, _⟩ | ⟨_, z⟩
      · cases z
      · exact z
    exact ok.h.ne a b l' ⟨⟨_, ua⟩, ha⟩ ⟨⟨_, ub⟩, hb⟩
/-- what is known less -/
theorem mb_wk {S1 : SL} {sts : List Stmt} {m : Option o} (w : Wk S S1) (hb : MB X g B J S1 sts m K) : MB X g B J S sts m K :=
  ⟨fun r q => pss_imp (hb.run r q) fun D σ H ⟨I, ok, kk⟩ => ⟨I, ok.wk w, kk⟩⟩

/-! if -/
/-- both ways end the block -/
theorem mb_if2 {mc : Option Bool} {m1 m2 : Option o} {b1 b2 : List Stmt} (hc : MT X g B S e mc) (h1 : MB X g B J S b1 m1 K) (h2 : MB X g B J S b2 m2 K) : MB X g B J S [.If e b1 b2 pos] (mc >>= fun b => if b = true then m1 else m2) K := by
  refine ⟨fun r q => ?_⟩
  obtain ⟨c, q1, q2⟩ := bind_some q
  cases c with
  | true =>
    rw [if_pos rfl] at q2
    exact pss_imp (pss_one (ps_if (hc.run _ q1) (h1.run r q2) (pss_never (sts := b2)))) fun D σ H ⟨I, ok, kk⟩ => ⟨I, ok.h, fun I1 H1 x1 => iteT ⟨I1, ok.ext x1, kk⟩⟩
  | false =>
    rw [if_neg Bool.false_ne_true] at q2
    exact pss_imp (pss_one (ps_if (hc.run _ q1) (pss_never (sts := b1)) (h2.run r q2))) fun D σ H ⟨I, ok, kk⟩ => ⟨I, ok.h, fun I1 H1 x1 => iteF ⟨I1, ok.ext x1, kk⟩⟩
/-- if c: (ends) ; rest -/
theorem mb_ift {mc : Option Bool} {m1 m2 : Option o} {b1 : List Stmt} (hc : MT X g B S e mc) (h1 : MB X g B J S b1 m1 K) (h2 : MB X g B J S rest m2 K) (hK : ∀ r D nx, m1 = some r → K r D → K r { D with nx := nx }) : MB X g B J S (.If e b1 [] pos :: rest) (mc >>= fun b => if b = true then m1 else m2) K := by
  refine ⟨fun r q => ?_⟩
  obtain ⟨c, q1, q2⟩ := bind_some q
  cases c with
  | true =>
    rw [if_pos rfl] at q2
    exact pss_imp (pss_cons (ps_if (hc.run _ q1) (h1.run r q2) (pss_never (sts := []))) (pss_never (sts := rest))) fun D σ H ⟨I, ok, kk⟩ => ⟨I, ok.h, fun I1 H1 x1 => iteT ⟨I1, ok.ext x1, hK r D _ q2 kk⟩⟩
  | false =>
    rw [if_neg Bool.false_ne_true] at q2
    exact pss_imp (pss_cons (ps_if (hc.run _ q1) (pss_never (sts := b1)) pss_nil) (h2.run r q2)) fun D σ H ⟨I, ok, kk⟩ => ⟨I, ok.h, fun I1 H1 x1 => iteF ⟨I1, ok.ext x1, kk⟩⟩
theorem hk_t {k : ρ → RK} {m1 : Option ρ} : ∀ r D nx, m1 = some r → Kt g B k r D → Kt g B k r { D with nx := nx } := fun _ _ _ _ h => h
/-- a block that never ends by itself -/
def NoNx {β γ ρ : Type} (m : Option (Ctl β γ ρ)) : Prop := ∀ r, m = some r → r.isNx = false
theorem nn_rt {r : ρ} : NoNx (some (Ctl.rt r : Ctl β γ ρ)) := fun _ q => by cases q; rfl
theorem nn_ct {r : γ} : NoNx (some (Ctl.ct r : Ctl β γ ρ)) := fun _ q => by cases q; rfl
theorem nn_bk {r : γ} : NoNx (some (Ctl.bk r : Ctl β γ ρ)) := fun _ q => by cases q; rfl
theorem nn_bind {m : Option α'} {f : α' → Option (Ctl β γ ρ)} (h : ∀ a, NoNx (f a)) : NoNx (m >>= f) := fun r q => by
  obtain ⟨a, _, q2⟩ := bind_some q
  exact h a r q2
theorem nn_ite {c : Prop} [Decidable c] {m1 m2 : Option (Ctl β γ ρ)} (h1 : NoNx m1) (h2 : NoNx m2) : NoNx (if c then m1 else m2) := by
  split
  · exact h1
  · exact h2
theorem hk_c {k : ρ → RK} {S' : β → SL} {T' : γ → SL} {m1 : Option (Ctl β γ ρ)} (h : NoNx m1) : ∀ r D nx, m1 = some r → Kc g B J S' T' k r D → Kc g B J S' T' k r { D with nx := nx } := fun r D nx e q => by
  have z := h r e
  cases r with
  | nx b => cases z
  | rt r => exact q
  | ct c => exact q
  | bk c => exact q
/-- if c: b1 else: b2 ; rest: a way may leave -/
theorem mb_ifc {β2 : Type} {mc : Option Bool} {m1 m2 : Option (Ctl β γ ρ)} {b1 b2 : List Stmt} {S' : β → SL} {S2 : β2 → SL} {T' : γ → SL} {k : ρ → RK} {f : β → Option (Ctl β2 γ ρ)} (hc : MT X g B S e mc) (h1 : MB X g B J S b1 m1 (Kc g B J S' T' k)) (h2 : MB X g B J S b2 m2 (Kc g B J S' T' k))
    (hb : ∀ b, MB X g B J (S' b) rest (f b) (Kc g B J S2 T' k)) : MB X g B J S (.If e b1 b2 pos :: rest) (mc >>= fun b => (if b = true then m1 else m2) >>= Ctl.seq f) (Kc g B J S2 T' k) := by
  refine ⟨fun r q => ?_⟩
  obtain ⟨c, q1, q2⟩ := bind_some q
  obtain ⟨b, q2, q3⟩ := bind_some q2
  have fin : ∀ {sts : List Stmt} {m : Option (Ctl β γ ρ)}, MB X g B J S sts m (Kc g B J S' T' k) → m = some b → ∃ u : TS, PSs X rest u ∧ PSs X sts (fun D σ H => ∃ I, Ok g B J S σ I H ∧ Kc g B J S' T' k b D) ∧ ∀ D, Kc g B J S2 T' k r D → Kc g B J S' T' k b { D with nx := u D } := fun {sts m} h e => by
    cases b with
    | nx b => exact ⟨_, (hb b).run r q3, h.run _ e, fun D kk σ I H ok => ⟨I, ok, kk⟩⟩
    | rt r' => cases q3; exact ⟨_, pss_never, h.run _ e, fun D kk => kk⟩
    | ct c => cases q3; exact ⟨_, pss_never, h.run _ e, fun D kk => kk⟩
    | bk c => cases q3; exact ⟨_, pss_never, h.run _ e, fun D kk => kk⟩
  cases c with
  | true =>
    rw [if_pos rfl] at q2
    obtain ⟨u, hu, hh, hk⟩ := fin h1 q2
    exact pss_imp (pss_cons (ps_if (hc.run _ q1) hh (pss_never (sts := b2))) hu) fun D σ H ⟨I, ok, kk⟩ => ⟨I, ok.h, fun I1 H1 x1 => iteT ⟨I1, ok.ext x1, hk D kk⟩⟩
  | false =>
    rw [if_neg Bool.false_ne_true] at q2
    obtain ⟨u, hu, hh, hk⟩ := fin h2 q2
    exact pss_imp (pss_cons (ps_if (hc.run _ q1) (pss_never (sts := b1)) hh) hu) fun D σ H ⟨I, ok, kk⟩ => ⟨I, ok.h, fun I1 H1 x1 => iteF ⟨I1, ok.ext x1, hk D kk⟩⟩
theorem mb_ifcT {mc : Option Bool} {m1 m2 : Option (Ctl β Empty ρ)} {b1 b2 : List Stmt} {S' : β → SL} {k : ρ → RK} {f : β → Option ρ} (hc : MT X g B S e mc) (h1 : MB X g B J S b1 m1 (Kc g B J S' (fun z => z.elim) k)) (h2 : MB X g B J S b2 m2 (Kc g B J S' (fun z => z.elim) k))
    (hb : ∀ b, MB X g B J (S' b) rest (f b) (Kt g B k)) : MB X g B J S (.If e b1 b2 pos :: rest) (mc >>= fun b => (if b = true then m1 else m2) >>= Ctl.seqT f) (Kt g B k) := by
  refine ⟨fun r q => ?_⟩
  obtain ⟨c, q1, q2⟩ := bind_some q
  obtain ⟨b, q2, q3⟩ := bind_some q2
  have fin : ∀ {sts : List Stmt} {m : Option (Ctl β Empty ρ)}, MB X g B J S sts m (Kc g B J S' (fun z => z.elim) k) → m = some b → ∃ u : TS, PSs X rest u ∧ PSs X sts (fun D σ H => ∃ I, Ok g B J S σ I H ∧ Kc g B J S' (fun z => z.elim) k b D) ∧ ∀ D, Kt g B k r D → Kc g B J S' (fun z => z.elim) k b { D with nx := u D } := fun {sts m} h e => by
    cases b with
    | nx b => exact ⟨_, (hb b).run r q3, h.run _ e, fun D kk σ I H ok => ⟨I, ok, kk⟩⟩
    | rt r' => cases q3; exact ⟨_, pss_never, h.run _ e, fun D kk => kk⟩
    | ct c => exact c.elim
    | bk c => exact c.elim
  cases c with
  | true =>
    rw [if_pos rfl] at q2
    obtain ⟨u, hu, hh, hk⟩ := fin h1 q2
    exact pss_imp (pss_cons (ps_if (hc.run _ q1) hh (pss_never (sts := b2))) hu) fun D σ H ⟨I, ok, kk⟩ => ⟨I, ok.h, fun I1 H1 x1 => iteT ⟨I1, ok.ext x1, hk D kk⟩⟩
  | false =>
    rw [if_neg Bool.false_ne_true] at q2
    obtain ⟨u, hu, hh, hk⟩ := fin h2 q2
    exact pss_imp (pss_cons (ps_if (hc.run _ q1) (pss_never (sts := b1)) hh) hu) fun D σ H ⟨I, ok, kk⟩ => ⟨I, ok.h, fun I1 H1 x1 => iteF ⟨I1, ok.ext x1, hk D kk⟩⟩
/-- if c: b1 else: b2 ; rest: both ways go on -/
theorem mb_if {mc : Option Bool} {m1 m2 : Option β} {b1 b2 : List Stmt} {S' : β → SL} {f : β → Option o} (hc : MT X g B S e mc) (h1 : MB X g B J S b1 m1 (Kn g B J S')) (h2 : MB X g B J S b2 m2 (Kn g B J S')) (hb : ∀ b, MB X g B J (S' b) rest (f b) K) :
    MB X g B J S (.If e b1 b2 pos :: rest) (mc >>= fun b => (if b = true then m1 else m2) >>= f) K := by
  refine ⟨fun r q => ?_⟩
  obtain ⟨c, q1, q2⟩ := bind_some q
  obtain ⟨b, q2, q3⟩ := bind_some q2
  cases c with
  | true =>
    rw [if_pos rfl] at q2
    exact pss_imp (pss_cons (ps_if (hc.run _ q1) (h1.run b q2) (pss_never (sts := b2))) ((hb b).run r q3)) fun D σ H ⟨I, ok, kk⟩ => ⟨I, ok.h, fun I1 H1 x1 => iteT ⟨I1, ok.ext x1, fun σ2 I2 H2 ok2 => ⟨I2, ok2, kk⟩⟩⟩
  | false =>
    rw [if_neg Bool.false_ne_true] at q2
    exact pss_imp (pss_cons (ps_if (hc.run _ q1) (pss_never (sts := b1)) (h2.run b q2)) ((hb b).run r q3)) fun D σ H ⟨I, ok, kk⟩ => ⟨I, ok.h, fun I1 H1 x1 => iteF ⟨I1, ok.ext x1, fun σ2 I2 H2 ok2 => ⟨I2, ok2, kk⟩⟩⟩
end
end T
set_option Elab.async false
set_option linter.all false
set_option maxRecDepth 100000
namespace T
open PySem PySem.Spec PyProof.Rows L2

/-! loops -/
def loopC {α γ ρ : Type} (f : γ → α → Option (Ctl γ γ ρ)) : List α → γ → Option (Ctl γ Empty ρ)
  | [], s => some (.nx s)
  | x :: xs, s => f s x >>= fun c => match c with
    | .nx s' => loopC f xs s'
    | .ct s' => loopC f xs s'
    | .rt r => some (.rt r)
    | .bk s' => some (.nx s')
def loopN {α γ : Type} (f : γ → α → Option γ) : List α → γ → Option γ
  | [], s => some s
  | x :: xs, s => f s x >>= fun s' => loopN f xs s'
/-- lo, lo + 1, .. -/
def rng (lo : Int) (n : Nat) : List Int := (List.range n).map fun (i : Nat) => lo + (i : Int)
theorem rng_get {lo : Int} {n i : Nat} (h : i < n) : (rng lo n)[i]? = some (lo + (i : Int)) := by
  unfold rng
  rw [List.getElem?_map, List.getElem?_range h]
  rfl
theorem rng_len {lo : Int} {n : Nat} : (rng lo n).length = n := by
  unfold rng
  rw [List.length_map, List.length_range]
def rngOk (i j : Int) : Bool := decide (-(2 ^ 62) ≤ i ∧ i < 2 ^ 62 ∧ -(2 ^ 62) ≤ j ∧ j < 2 ^ 62) && decide ((j - i).toNat ≤ sizeLine)
@[irreducible] def rng1O (n : Int) : Option (List Int) := if rngOk 0 n = true then some (rng 0 n.toNat) else none
@[irreducible] def rng2O (a b : Int) : Option (List Int) := if rngOk a b = true then some (rng a (b - a).toNat) else none
theorem rngOk_1 {i j : Int} (h : rngOk i j = true) : -(2 ^ 62) ≤ i ∧ i < 2 ^ 62 ∧ -(2 ^ 62) ≤ j ∧ j < 2 ^ 62 := of_decide_eq_true (Bool.and_eq_true _ _ ▸ h).1
theorem rngOk_2 {i j : Int} (h : rngOk i j = true) : (j - i).toNat ≤ sizeLine := of_decide_eq_true (Bool.and_eq_true _ _ ▸ h).2
/-- what an iterator J walks: the typed items as, one after another, in every heap that goes on from I1 -/
structure WalkI {α : Type} [Py α] (g : Gb) (B : Bs) (J : It) (as : List α) (I1 : Hp) : Prop where
  go : ∀ i a I2 H2, as[i]? = some a → Same I1 I2 → Same I2 H2 → Same B.H H2 → J.go i H2
  yl : ∀ i a I2 H2 x H', as[i]? = some a → Same I1 I2 → Same I2 H2 → Same B.H H2 → J.yld i H2 x H' → ∃ I', Ext I2 H2 I' H' ∧ (Py.r g a).p I' x
  st : ∀ I2 H2, Same I1 I2 → Same I2 H2 → Same B.H H2 → J.stop as.length H2
  len : as.length ≤ sizeLine
def rdI {α : Type} [Py α] (g : Gb) (B : Bs) (S : SL) (as : List α) : TI := fun σ H R => ∃ I, Hold g B S σ I H ∧ ∀ (J : It) I' H', Ext I H I' H' → WalkI g B J as I' → R J H'
structure MI {α : Type} [Py α] (X : Cx) (g : Gb) (B : Bs) (S : SL) (tg e : Expr) (m : Option (List α)) : Prop where
  run : ∀ as, m = some as → PI X tg e (rdI g B S as)
theorem pi_imp {X : Cx} {tg e : Expr} {t t' : TI} (h : PI X tg e t) (f : ∀ σ H R, t' σ H R → t σ H R) : PI X tg e t' := ⟨fun pins s σ H R I hw => h.run pins s σ H R I (f σ H R hw)⟩
theorem walk_list {α : Type} [Py α] {g : Gb} {B : Bs} {as : List α} {a : Addr} {vs : List V} {I1 : Hp} (hL : SqL g.K I1 a vs ∨ SqL g.K B.H a vs) (hR : (rl g as).p I1 vs) : WalkI g B (Itl g.K a) as I1 where
  go := fun i x I2 H2 e s1 s2 s3 => by
    obtain ⟨v, e2, _⟩ := paired_get hR.2 e
    exact ⟨vs, v, hL.elim (fun z => s2.seq (s1.seq z)) fun z => s3.seq z, e2⟩
  yl := fun i x I2 H2 v H' e s1 s2 s3 y => by
    obtain ⟨u, e2, q⟩ := paired_get hR.2 e
    obtain ⟨rfl, y⟩ := y
    have e3 := y vs (hL.elim (fun z => s2.seq (s1.seq z)) fun z => s3.seq z)
    rw [e2] at e3
    cases e3
    exact ⟨I2, Ext.refl s2, (Py.r g x).mono s1 q⟩
  st := fun I2 H2 s1 s2 s3 => ⟨vs, hL.elim (fun z => s2.seq (s1.seq z)) fun z => s3.seq z, Nat.le_of_eq (rl_len hR)⟩
  len := hR.1
theorem walk_rng {g : Gb} {B : Bs} {lo : Int} {n : Nat} {I1 : Hp} (hn : n ≤ sizeLine) : WalkI g B (Itr lo n) (rng lo n) I1 where
  go := fun i x I2 H2 e _ _ _ => by
    have := (List.getElem?_eq_some_iff.mp e).1
    rw [rng_len] at this
    exact this
  yl := fun i x I2 H2 v H' e s1 s2 s3 y => by
    have hi := (List.getElem?_eq_some_iff.mp e).1
    rw [rng_len] at hi
    rw [rng_get hi] at e
    cases e
    obtain ⟨rfl, rfl⟩ := y
    exact ⟨I2, Ext.refl s2, rfl⟩
  st := fun I2 H2 _ _ _ => by
    rw [rng_len]
    exact Nat.le_refl _
  len := by
    rw [rng_len]
    exact hn
section
variable {X : Cx} {g : Gb} {B : Bs} {J : Hp} {S : SL} {e e1 e2 e3 tg : Expr} {es : List Expr} {pos pos' p : Pos} {o α' β γ ρ : Type} {K : KT o} {rest body : List Stmt} {α : Type} [Py α]
/-- a list that stays -/
theorem mi_im {m : Option (List α)} (h : ME X g B S e m (KI g)) (hg : X.K = g.K := by rfl) : MI X g B S tg e m := by
  refine ⟨fun as q => ?_⟩
  refine pi_imp (pi_list (h.run as q)) fun σ H R ⟨I, hh, k⟩ => ⟨I, hh, fun v I' H' x hv => ?_⟩
  obtain ⟨l, vs, rfl, h1, h2⟩ := hv
  rw [hg]
  exact ⟨l, rfl, ⟨vs, x.s.seq h1⟩, k _ I' H' x (walk_list (.inl h1) h2)⟩
/-- a borrowed list -/
theorem mi_bw (i : Nat) {x : Str} {as : List α} (hS : S[i]? = some (some (.bw (rl g as))) := by rfl) (hN : X.N[i]? = some x := by rfl) (hv : Vis X.env.scope x := by first | exact Or.inl rfl | exact Or.inr (Or.inl rfl) | exact Or.inr (Or.inr rfl))
    (hd : (x == ("__debug__" : Str)) = false := by decide) (hcd : (x == ("__classdict__" : Str)) = false := by decide) (hg : X.K = g.K := by rfl) : MI X g B S tg (.Name x pos) (some as) := by
  refine ⟨fun as' q => ?_⟩
  cases q
  refine pi_imp (pi_list (pe_var hN hv hd hcd)) fun σ H R ⟨I, hh, k⟩ => ?_
  obtain ⟨v, e1, l, vs, rfl, h3, h4⟩ := hh.at_ i _ hS
  rw [hg]
  exact ⟨_, e1, l, rfl, ⟨vs, hh.base.seq h3⟩, k _ I H (Ext.refl hh.sub) (walk_list (.inr h3) h4)⟩
theorem mi_rng1 {m : Option Int} (hm : X.mg "range" = none) (h : ME X g B S e m (KI g)) (hg : Gl X "range" := by rfl) (hs : starEach [e] X.env = [(false, eval e X.env)] := by rfl) : MI X g B S tg (.Call (.Name "range" p) [e] [] pos) (m >>= fun n => rng1O n) := by
  refine ⟨fun as q => ?_⟩
  obtain ⟨n, q1, q2⟩ := bind_some q
  unfold rng1O at q2
  by_cases hn : rngOk 0 n = true
  · rw [if_pos hn] at q2
    cases q2
    have hb := rngOk_1 hn
    have hz := rngOk_2 hn
    refine pi_imp (pi_range1 hg hm (pa_cons (h.run n q1) pa_nil hs) hs) fun σ H R ⟨I, hh, k⟩ => ⟨I, hh, fun v I' H' x hv => ⟨n, by cases hv; rfl, hb.2.2.1, hb.2.2.2, k _ I' H' x (walk_rng (by rw [Int.sub_zero] at hz; exact hz))⟩⟩
  · rw [if_neg hn] at q2
    cases q2
theorem mi_rng2 {m m2 : Option Int} (hm : X.mg "range" = none) (h : ME X g B S e m (KI g)) (h2 : ME X g B S e2 m2 (KI g)) (hg : Gl X "range" := by rfl) (hs : starEach [e, e2] X.env = [(false, eval e X.env), (false, eval e2 X.env)] := by rfl) (hs2 : starEach [e2] X.env = [(false, eval e2 X.env)] := by rfl) :
    MI X g B S tg (.Call (.Name "range" p) [e, e2] [] pos) (m >>= fun a => m2 >>= fun b => rng2O a b) := by
  refine ⟨fun as q => ?_⟩
  obtain ⟨a, q1, q⟩ := bind_some q
  obtain ⟨b, q2, q⟩ := bind_some q
  unfold rng2O at q
  by_cases hn : rngOk a b = true
  · rw [if_pos hn] at q
    cases q
    have hb := rngOk_1 hn
    have hz := rngOk_2 hn
    refine pi_imp (pi_range2 hg hm (pa_cons (h.run a q1) (pa_cons (h2.run b q2) pa_nil hs2) (by rw [hs, hs2])) hs hs2) fun σ H R ⟨I, hh, k⟩ => ⟨I, hh, fun v I' H' x hv => ⟨I', hh.ext x, fun w I2 H2 x2 hw => ⟨a, b, by cases hv; cases hw; rfl, hb, k _ I2 H2 (x.trans x2) (walk_rng hz)⟩⟩⟩
  · rw [if_neg hn] at q
    cases q
theorem wipe_get : ∀ (vs : List Nat) (σ : L2.St) (j : Nat), (wipe σ vs)[j]? = if j ∈ vs ∧ j < σ.length then some none else σ[j]?
  | [], σ, j => by rw [if_neg (by simp)]; rfl
  | v :: vs, σ, j => by
    show ((wipe σ vs).set v none)[j]? = _
    rw [List.getElem?_set, wipe_get vs σ j, wipe_length]
    by_cases hv : v = j
    · subst hv
      rw [if_pos rfl]
      by_cases hl : v < σ.length
      · rw [if_pos hl, if_pos ⟨List.mem_cons_self, hl⟩]
      · rw [if_neg hl, if_neg (fun z => hl z.2), List.getElem?_eq_none_iff.mpr (by omega)]
    · rw [if_neg hv]
      by_cases hj : j ∈ vs ∧ j < σ.length
      · rw [if_pos hj, if_pos ⟨List.mem_cons_of_mem _ hj.1, hj.2⟩]
      · rw [if_neg hj, if_neg (fun z => hj ⟨(List.mem_cons.mp z.1).resolve_left (fun q => hv q.symm), z.2⟩)]
theorem wipe_set {σ : L2.St} {i : Nat} {x : Option V} {vs : List Nat} (h : i ∈ vs) : wipe (σ.set i x) vs = wipe σ vs := by
  apply List.ext_getElem?
  intro j
  rw [wipe_get, wipe_get, List.length_set]
  by_cases hj : j ∈ vs ∧ j < σ.length
  · rw [if_pos hj, if_pos hj]
  · rw [if_neg hj, if_neg hj]
    by_cases hij : i = j
    · subst hij
      have hl : ¬ i < σ.length := fun z => hj ⟨h, z⟩
      rw [List.getElem?_eq_none_iff.mpr (by rw [List.length_set]; omega), List.getElem?_eq_none_iff.mpr (by omega)]
    · rw [List.getElem?_set_ne hij]
theorem wipe_wipe {σ : L2.St} {vs : List Nat} : wipe (wipe σ vs) vs = wipe σ vs := by
  apply List.ext_getElem?
  intro j
  rw [wipe_get vs (wipe σ vs) j, wipe_length, wipe_get vs σ j]
  by_cases hj : j ∈ vs ∧ j < σ.length
  · rw [if_pos hj, if_pos hj]
  · rw [if_neg hj]
/-- the target of a for, a typed item put into its slots ts -/
structure MG {α : Type} [Py α] (X : Cx) (g : Gb) (tg : Expr) (gt : TG) (put : α → SL → SL) (ts : List Nat) : Prop where
  pg : PG X tg gt
  ok : ∀ (B : Bs) (S : SL) (a : α) (v : V) σ I H Q, Hold g B S σ I H → (Py.r g a).p I v → (∀ σ', Hold g B (put a S) σ' I H → (∀ vs, (∀ t ∈ ts, t ∈ vs) → wipe σ' vs = wipe σ vs) → Q σ' H) → gt v σ H Q
theorem hold_put {a : α} {v : V} {i : Nat} {σ : L2.St} {I H : Hp} (h : Hold g B S σ I H) (hv : (Py.r g a).p I v) : Hold g B (S.set i (some (.im (Py.r g a)))) (σ.set i (some v)) I H := h.put (H1 := H) rfl hv h.base fun j l q => (h.own q).1
theorem MG.oks {gt : TG} {put : α → SL → SL} {ts : List Nat} (h : MG X g tg gt put ts) {a : α} {v : V} {σ : L2.St} {I H : Hp} {Q : L2.St → Hp → Prop} (ok : Ok g B J S σ I H) (hv : (Py.r g a).p I v) (k : ∀ σ', Ok g B J (put a S) σ' I H → Q σ' H) : gt v σ H Q :=
  h.ok B S a v σ I H Q ok.h hv fun σ' h' _ => k σ' ⟨ok.x, ok.j, h'⟩
theorem mg_name (i : Nat) {x : Str} (hN : X.N.Nodup) (hi : X.N[i]? = some x := by rfl) (hx : Loc X.env.scope x := by first | exact Or.inl rfl | exact Or.inr rfl) (hf : X.fn x = true ∨ X.env.scope.names.lookup x = some .local := by first | exact .inl rfl | exact .inr rfl) :
    MG (α := α) X g (.Name x pos) (gName i) (fun a S => S.set i (some (.im (Py.r g a)))) [i] :=
  ⟨pg_name hN hi hx hf, fun B S a v σ I H Q h hv k => k _ (hold_put h hv) fun vs ht => wipe_set (ht i List.mem_cons_self)⟩
/-- a turn's reading, at all states and items at once -/
def turnN {α β : Type} [Py α] (g : Gb) (B : Bs) (put : α → SL → SL) (S' : β → SL) (fb : β → α → Option β) : TS := fun D σ H => ∃ J I s a s', Ok g B J (put a (S' s)) σ I H ∧ fb s a = some s' ∧ ∀ σ I H, Ok g B J (S' s') σ I H → D.nx σ H
def turnC {α γ ρ : Type} [Py α] (g : Gb) (B : Bs) (put : α → SL → SL) (S' : γ → SL) (k : ρ → RK) (fb : γ → α → Option (Ctl γ γ ρ)) : TS := fun D σ H => ∃ J I s a c, Ok g B J (put a (S' s)) σ I H ∧ fb s a = some c ∧ Kc g B J S' S' k c D
/-- for over a walk: Pv by the turn -/
theorem for_walk {J : It} {as : List α} {I1 : Hp} {gt : TG} {tb : TS} {D : Ends} {σ : L2.St} {H : Hp} (W : WalkI g B J as I1) (Pv : Nat → L2.St → Hp → Prop) (h0 : Pv 0 σ H)
    (hl : ∀ i σ H, Pv i σ H → ∃ I2, Same I1 I2 ∧ Same I2 H ∧ Same B.H H)
    (hs : ∀ i a σ H x H', as[i]? = some a → Pv i σ H → J.yld i H x H' → gt x σ H' fun σ2 H2 => tb { D with nx := Pv (i + 1), ct := Pv (i + 1), bk := D.nx } σ2 H2) (hd : ∀ σ H, Pv as.length σ H → D.nx σ H) :
    ∃ W : Nat → Nat → L2.St → Hp → Prop, (∃ m, W 0 m σ H) ∧ ∀ i m σ H, W i m σ H →
      (J.stop i H ∧ D.nx σ H) ∨ (J.go i H ∧ ∃ N : L2.St → Hp → Prop, (∀ σ' H', N σ' H' → ∃ m', m' < m ∧ W (i + 1) m' σ' H') ∧ ∀ x H', J.yld i H x H' → gt x σ H' fun σ2 H2 => tb { D with nx := N, ct := N, bk := D.nx } σ2 H2) := by
  refine ⟨fun i m σ H => m = as.length - i ∧ i ≤ as.length ∧ Pv i σ H, ⟨as.length, by simp, Nat.zero_le _, h0⟩, ?_⟩
  rintro i m σ H ⟨rfl, hi, p⟩
  obtain ⟨I2, s1, s2, s3⟩ := hl i σ H p
  by_cases hlt : i < as.length
  · have e : as[i]? = some as[i] := List.getElem?_eq_getElem hlt
    exact .inr ⟨W.go i _ I2 H e s1 s2 s3, Pv (i + 1), fun σ' H' p' => ⟨as.length - (i + 1), by omega, rfl, hlt, p'⟩, fun x H' y => hs i _ σ H x H' e p y⟩
  · have e : i = as.length := by omega
    subst e
    exact .inl ⟨W.st I2 H s1 s2 s3, hd σ H p⟩
theorem drop_at {as : List α} {i : Nat} {it : α} (hit : as[i]? = some it) : as.drop i = it :: as.drop (i + 1) := by
  have hlt : i < as.length := (List.getElem?_eq_some_iff.mp hit).1
  rw [List.drop_eq_getElem_cons hlt]
  rw [List.getElem?_eq_getElem hlt] at hit
  rw [Option.some.inj hit]
/-- for: every turn goes on -/
theorem mb_for {m : Option (List α)} {put : α → SL → SL} {S' : β → SL} {s0 : β} {fb : β → α → Option β} {f : β → Option o} (hp : PassesOwn (model X.prog X.w) X.A X.env X.xe) (hi : MI X g B S tg e m) {gt : TG} {ts : List Nat} (hG : MG X g tg gt put ts) (w : Wk S (S' s0))
    (hb : ∀ J s a, MB X g B J (put a (S' s)) body (fb s a) (Kn g B J S')) (hr : ∀ s, MB X g B J (S' s) rest (f s) K) (hc : X.calm = true := by rfl) (hs : ∀ x, foldedSetIterable e X.env x = pure x := by intro _; rfl) :
    MB X g B J S (.For tg e body [] pos :: rest) (m >>= fun as => loopN fb as s0 >>= f) K := by
  refine ⟨fun r q => ?_⟩
  obtain ⟨as, q1, q⟩ := bind_some q
  obtain ⟨s1, q2, q3⟩ := bind_some q
  have hg1 := hG.pg
  have hbody : PSs X body (turnN g B put S' fb) :=
    ⟨fun pins st σ H D inv ⟨J, I, s, a, s', ok, e1, k⟩ => ((hb J s a).run s' e1).run pins st σ H D inv ⟨I, ok, k⟩⟩
  refine pss_imp (pss_cons (ps_for hp hc (hi.run as q1) hg1 hbody hs) ((hr s1).run r q3)) fun D σ H ⟨I, ok, kk⟩ => ?_
  refine ⟨I, ok.h, fun J1 I1 H1 x1 hW => ?_⟩
  have F := for_walk (gt := gt) (tb := turnN g B put S' fb) (D := { D with nx := fun σ H => ∃ I, Ok g B J (S' s1) σ I H ∧ K r D }) (σ := σ) (H := H1) hW
    (fun i σ H => ∃ s I2, loopN fb (as.drop i) s = some s1 ∧ Same I1 I2 ∧ Ok g B J (S' s) σ I2 H) ⟨s0, I1, q2, Same.refl _, (ok.ext x1).wk w⟩ (fun i σ H ⟨s, I2, _, s2, ok2⟩ => ⟨I2, s2, ok2.h.sub, ok2.h.base⟩) (fun i it σ H x H' hit ⟨s, I2, hl, s2, ok2⟩ hy => ?_) (fun σ H ⟨s, I2, hl, s2, ok2⟩ => ?_)
  · exact F
  · obtain ⟨I3, x3, hv⟩ := hW.yl i it I2 H x H' hit s2 ok2.h.sub ok2.h.base hy
    rw [drop_at hit] at hl
    obtain ⟨s', e1, e2⟩ := bind_some (show (fb s it >>= fun s' => loopN fb (as.drop (i + 1)) s') = some s1 from hl)
    have ok3 : Ok g B I3 (S' s) σ I3 H' := ⟨ok2.x.trans x3, Same.refl _, ok2.h.ext x3⟩
    exact hG.oks ok3 hv fun σ' ok4 => ⟨I3, I3, s, it, s', ok4, e1, fun σ5 I5 H5 ok5 => ⟨s', I5, e2, (s2.trans x3.i).trans ok5.j, ⟨ok5.x, (ok2.j.trans x3.i).trans ok5.j, ok5.h⟩⟩⟩
  · rw [List.drop_of_length_le (Nat.le_refl _)] at hl
    cases hl
    exact ⟨I2, ok2, kk⟩
/-- a way out of the loop, as the block goes on from it -/
structure KL {γ ρ o : Type} (g : Gb) (B : Bs) (K : KT o) (k : ρ → RK) (inj : ρ → o) : Prop where
  rt : ∀ r D, K (inj r) D → ∀ v I' H', Ext B.I B.H I' H' → RK.holds g (k r) B.H v I' H' → D.rt v H'
/-- for: a turn may leave, go on ahead of its end, break -/
theorem mb_forC {m : Option (List α)} {put : α → SL → SL} {S' : γ → SL} {s0 : γ} {k : ρ → RK} {fb : γ → α → Option (Ctl γ γ ρ)} {f : Ctl γ Empty ρ → Option o} {f0 : γ → Option o} {inj : ρ → o} (kr : KR g B K inj k) (hp : PassesOwn (model X.prog X.w) X.A X.env X.xe) (hi : MI X g B S tg e m) {gt : TG} {ts : List Nat} (hG : MG X g tg gt put ts) (w : Wk S (S' s0))
    (hb : ∀ J s a, MB X g B J (put a (S' s)) body (fb s a) (Kc g B J S' S' k)) (hr : ∀ s, MB X g B J (S' s) rest (f0 s) K) (hf : ∀ s, f (.nx s) = f0 s) (hf2 : ∀ r, f (.rt r) = some (inj r)) (hc : X.calm = true := by rfl) (hs : ∀ x, foldedSetIterable e X.env x = pure x := by intro _; rfl) :
    MB X g B J S (.For tg e body [] pos :: rest) (m >>= fun as => loopC fb as s0 >>= f) K := by
  refine ⟨fun r q => ?_⟩
  obtain ⟨as, q1, q⟩ := bind_some q
  obtain ⟨c1, q2, q3⟩ := bind_some q
  have hg1 := hG.pg
  have hbody : PSs X body (turnC g B put S' k fb) :=
    ⟨fun pins st σ H D inv ⟨J, I, s, a, c, ok, e1, k⟩ => ((hb J s a).run c e1).run pins st σ H D inv ⟨I, ok, k⟩⟩
  obtain ⟨u, hu, hk⟩ : ∃ u : TS, PSs X rest u ∧ ∀ D, K r D → (∀ s1, c1 = .nx s1 → ∀ σ I H, Ok g B J (S' s1) σ I H → u D σ H) ∧ (∀ r1, c1 = .rt r1 → ∀ v I' H', Ext B.I B.H I' H' → RK.holds g (k r1) B.H v I' H' → D.rt v H') := by
    cases c1 with
    | nx s1 =>
      rw [hf] at q3
      exact ⟨_, (hr s1).run r q3, fun D kk => ⟨fun s2 e2 σ I H ok => (by cases e2; exact ⟨I, ok, kk⟩), fun r1 e2 => (by cases e2)⟩⟩
    | rt r1 =>
      rw [hf2] at q3
      cases q3
      exact ⟨_, pss_never, fun D kk => ⟨fun s2 e2 => (by cases e2), fun r2 e2 => (by cases e2; exact kr r1 D kk)⟩⟩
    | ct c => exact c.elim
    | bk c => exact c.elim
  refine pss_imp (pss_cons (ps_for hp hc (hi.run as q1) hg1 hbody hs) hu) fun D σ H ⟨I, ok, kk⟩ => ?_
  obtain ⟨hk1, hk2⟩ := hk D kk
  refine ⟨I, ok.h, fun J1 I1 H1 x1 hW => ?_⟩
  have F := for_walk (gt := gt) (tb := turnC g B put S' k fb) (D := { D with nx := u D }) (σ := σ) (H := H1) hW
    (fun i σ H => ∃ s I2, loopC fb (as.drop i) s = some c1 ∧ Same I1 I2 ∧ Ok g B J (S' s) σ I2 H) ⟨s0, I1, q2, Same.refl _, (ok.ext x1).wk w⟩ (fun i σ H ⟨s, I2, _, s2, ok2⟩ => ⟨I2, s2, ok2.h.sub, ok2.h.base⟩) (fun i it σ H x H' hit ⟨s, I2, hl, s2, ok2⟩ hy => ?_) (fun σ H ⟨s, I2, hl, s2, ok2⟩ => ?_)
  · exact F
  · obtain ⟨I3, x3, hv⟩ := hW.yl i it I2 H x H' hit s2 ok2.h.sub ok2.h.base hy
    rw [drop_at hit] at hl
    obtain ⟨c', e1, e2⟩ := bind_some hl
    have ok3 : Ok g B I3 (S' s) σ I3 H' := ⟨ok2.x.trans x3, Same.refl _, ok2.h.ext x3⟩
    refine hG.oks ok3 hv fun σ' ok4 => ⟨I3, I3, s, it, c', ok4, e1, ?_⟩
    cases c' with
    | nx s' => exact fun σ5 I5 H5 ok5 => ⟨s', I5, e2, (s2.trans x3.i).trans ok5.j, ⟨ok5.x, (ok2.j.trans x3.i).trans ok5.j, ok5.h⟩⟩
    | ct s' => exact fun σ5 I5 H5 ok5 => ⟨s', I5, e2, (s2.trans x3.i).trans ok5.j, ⟨ok5.x, (ok2.j.trans x3.i).trans ok5.j, ok5.h⟩⟩
    | rt r1 =>
      cases e2
      exact hk2 r1 rfl
    | bk s' =>
      cases e2
      exact fun σ5 I5 H5 ok5 => hk1 s' rfl σ5 I5 H5 ⟨ok5.x, (ok2.j.trans x3.i).trans ok5.j, ok5.h⟩
  · rw [List.drop_of_length_le (Nat.le_refl _)] at hl
    cases hl
    exact hk1 s rfl σ I2 H ok2
/-! while -/
def whileC {γ ρ : Type} (c : γ → Option Bool) (f : γ → Option (Ctl γ γ ρ)) : Nat → γ → Option (Ctl γ Empty ρ)
  | 0, _ => none
  | n + 1, s => c s >>= fun b => if b = true then (f s >>= fun c' => match c' with
    | .nx s' => whileC c f n s'
    | .ct s' => whileC c f n s'
    | .rt r => some (.rt r)
    | .bk s' => some (.nx s')) else some (.nx s)
def wtest {γ : Type} (g : Gb) (B : Bs) (S' : γ → SL) (cm : γ → Option Bool) : TT := fun σ H Q => ∃ s I b, Hold g B (S' s) σ I H ∧ cm s = some b ∧ ∀ I' H', Ext I H I' H' → Q b H'
def wturn {γ ρ : Type} (g : Gb) (B : Bs) (J : Hp) (S' : γ → SL) (k : ρ → RK) (fb : γ → Option (Ctl γ γ ρ)) : TS := fun D σ H => ∃ I s c, Ok g B J (S' s) σ I H ∧ fb s = some c ∧ Kc g B J S' S' k c D
theorem mb_while {c : Expr} (N : Nat) {S' : γ → SL} {s0 : γ} {k : ρ → RK} {cm : γ → Option Bool} {fb : γ → Option (Ctl γ γ ρ)} {f : Ctl γ Empty ρ → Option o} {f0 : γ → Option o} {inj : ρ → o} (kr : KR g B K inj k) (hp : PassesOwn (model X.prog X.w) X.A X.env X.xe) (w : Wk S (S' s0))
    (hc : ∀ s, MT X g B (S' s) c (cm s)) (hb : ∀ s, MB X g B J (S' s) body (fb s) (Kc g B J S' S' k)) (hr : ∀ s, MB X g B J (S' s) rest (f0 s) K) (hf : ∀ s, f (.nx s) = f0 s) (hf2 : ∀ r, f (.rt r) = some (inj r)) :
    MB X g B J S (.While c body [] pos :: rest) (whileC cm fb N s0 >>= f) K := by
  refine ⟨fun r q => ?_⟩
  obtain ⟨c1, q2, q3⟩ := bind_some q
  have htest : PT X c (wtest g B S' cm) := ⟨fun pins st σ H Q inv ⟨s, I, b, hh, e1, kq⟩ => ((hc s).run b e1).run pins st σ H Q inv ⟨I, hh, kq⟩⟩
  have hbody : PSs X body (wturn g B J S' k fb) := ⟨fun pins st σ H D inv ⟨I, s, c, ok, e1, kq⟩ => ((hb s).run c e1).run pins st σ H D inv ⟨I, ok, kq⟩⟩
  obtain ⟨u, hu, hk⟩ : ∃ u : TS, PSs X rest u ∧ ∀ D, K r D → (∀ s1, c1 = .nx s1 → ∀ σ I H, Ok g B J (S' s1) σ I H → u D σ H) ∧ (∀ r1, c1 = .rt r1 → ∀ v I' H', Ext B.I B.H I' H' → RK.holds g (k r1) B.H v I' H' → D.rt v H') := by
    cases c1 with
    | nx s1 =>
      rw [hf] at q3
      exact ⟨_, (hr s1).run r q3, fun D kk => ⟨fun s2 e2 σ I H ok => (by cases e2; exact ⟨I, ok, kk⟩), fun r1 e2 => (by cases e2)⟩⟩
    | rt r1 =>
      rw [hf2] at q3
      cases q3
      exact ⟨_, pss_never, fun D kk => ⟨fun s2 e2 => (by cases e2), fun r2 e2 => (by cases e2; exact kr r1 D kk)⟩⟩
    | ct c => exact c.elim
    | bk c => exact c.elim
  refine pss_imp (pss_cons (ps_while hp htest hbody) hu) fun D σ H ⟨I, ok, kk⟩ => ?_
  obtain ⟨hk1, hk2⟩ := hk D kk
  refine ⟨fun n σ H => ∃ s I2, whileC cm fb n s = some c1 ∧ Ok g B J (S' s) σ I2 H, ⟨N, s0, I, q2, ok.wk w⟩, ?_⟩
  rintro n σ H ⟨s, I2, hl, ok2⟩
  cases n with
  | zero => cases hl
  | succ n =>
    obtain ⟨b, e1, e2⟩ := bind_some hl
    refine ⟨s, I2, b, ok2.h, e1, fun I3 H3 x3 => ?_⟩
    cases b with
    | false =>
      rw [if_neg Bool.false_ne_true] at e2 ⊢
      cases e2
      exact hk1 s rfl σ I3 H3 (ok2.ext x3)
    | true =>
      rw [if_pos rfl] at e2 ⊢
      obtain ⟨c', e3, e4⟩ := bind_some e2
      refine ⟨fun σ' H' => ∃ s I2, whileC cm fb n s = some c1 ∧ Ok g B J (S' s) σ' I2 H', fun σ' H' h => ⟨n, Nat.lt_succ_self n, h⟩, I3, s, c', ok2.ext x3, e3, ?_⟩
      cases c' with
      | nx s' => exact fun σ5 I5 H5 ok5 => ⟨s', I5, e4, ok5⟩
      | ct s' => exact fun σ5 I5 H5 ok5 => ⟨s', I5, e4, ok5⟩
      | rt r1 =>
        cases e4
        exact hk2 r1 rfl
      | bk s' =>
        cases e4
        exact fun σ5 I5 H5 ok5 => hk1 s' rfl σ5 I5 H5 ok5
end
end T
set_option Elab.async false
set_option linter.all false
set_option maxRecDepth 100000
namespace T
open PySem PySem.Spec PyProof.Rows L2

/-! a def -/
def S0 (N : List Str) (ks : List RK) : SL := ks.map some ++ List.replicate (N.length - ks.length) none
def RK.argy : RK → Bool
  | .im _ => true
  | .bw _ => true
  | _ => false
theorem hold_start {g : Gb} {N : List Str} {ks : List RK} {vs : List V} {I H : Hp} (hl : ks.length ≤ N.length) (s : Same I H) (hA : Args g ks vs I H) (hk : ks.all RK.argy = true) : Ok g ⟨I, H⟩ I (S0 N ks) (L2.start N vs) I H := by
  have hlen : ks.length = vs.length := Paired.length hA
  have arg : ∀ {i : Nat} {k : RK}, (S0 N ks)[i]? = some (some k) → ks[i]? = some k := fun {i k} e => by
    unfold S0 at e
    by_cases hi : i < ks.length
    · rw [List.getElem?_append_left (by rw [List.length_map]; exact hi), List.getElem?_map] at e
      cases q : ks[i]? with
      | none => rw [q] at e; cases e
      | some k' => rw [q] at e; cases e; rfl
    · rw [List.getElem?_append_right (by rw [List.length_map]; omega)] at e
      obtain ⟨h1, h2⟩ := List.getElem?_eq_some_iff.mp e
      rw [List.getElem_replicate] at h2
      cases h2
  refine ⟨Ext.refl s, Same.refl _, ⟨?_, s, Same.refl _, fun i k e => ?_, fun i j l ⟨⟨q, e⟩, _⟩ _ => ?_, fun i q e => ?_⟩⟩
  · unfold S0 L2.start
    simp only [List.length_append, List.length_map, List.length_replicate]
    omega
  · obtain ⟨v, e2, q⟩ := paired_get hA (arg e)
    refine ⟨v, ?_, q⟩
    unfold L2.start
    rw [List.getElem?_append_left (by rw [List.length_map]; exact (List.getElem?_eq_some_iff.mp e2).1), List.getElem?_map, e2]
    rfl
  · have := List.all_eq_true.mp hk _ (List.mem_of_getElem? (arg e))
    cases this
  · have := List.all_eq_true.mp hk _ (List.mem_of_getElem? (arg e))
    cases this
section
variable {P : Program} {w : World} {K : PySem.W.Frag} {mg : Str → Option Value} {base : Heap} {ι β : Type} {args : ι → List RK} {M : ι → Option β} {kd : β → RK}
theorem fn_mk {x qual : Str} {st : Stmt} {f : Addr} {fd : FuncData} {N ps : List Str} {k : Nat} (F : Fun K x qual st f fd) (Sc : FnScope N ps (defScope st)) (hn : ∀ a, (args a).length = ps.length) (hk : ∀ a, (args a).all RK.argy = true) (hN : ps.length ≤ N.length)
    (body : ∀ (cdv : Value) (A : Around) (outer : List Env) (s : Shared) (H : Hp) (E : XK) (I : Hp) (a : ι), Room k (A.deeper (envOfC qual (defScope st) s.heap.objs.size f cdv)) →
      MB (cxOf CX0 P w K mg base N qual (defScope st) f cdv A outer s H E).nox ⟨K, mg⟩ ⟨I, H⟩ I (S0 N (args a)) (defBody st) (M a) (Kt ⟨K, mg⟩ ⟨I, H⟩ kd)) :
    FnOk P w K mg base CX0 (k + 1) f fd ps (spT ⟨K, mg⟩ args M kd) := by
  refine F.ok Sc (fun vs H Q E ⟨I, a, r, s, hA, _⟩ => ?_) (fun cdv A outer s H vs Q E hr ⟨I, a, r, si, hA, hM, q⟩ => ?_)
  · rw [← Paired.length hA, hn]
  · exact ⟨_, (body cdv A outer s H E I a hr).run r hM, I, hold_start (by rw [hn]; exact hN) si hA (hk a), fun v I' H' x hv => q v I' H' x hv⟩
end

section
variable {X : Cx} {g : Gb} {B : Bs} {J : Hp} {S : SL} {e e1 e2 e3 tg : Expr} {es : List Expr} {pos pos' p : Pos} {o α' β' γ ρ : Type} {K : KT o} {rest body : List Stmt} {α β : Type} [Py α] [Py β] {m : Option (List α)} {k : List α → RK}
/-! built-ins -/
theorem me_len (hm : X.mg "len" = none) (h : ME X g B S e m k) (r : LR g k := by first | exact lr_im | exact lr_fr | exact lr_rd) (hg : Gl X "len" := by rfl) (hK : X.K = g.K := by rfl) (he : starEach [e] X.env = (false, eval e X.env) :: starEach [] X.env := by rfl) (hpl : (backTo pos (starEach [] X.env)).any (·.1) = false := by rfl) :
    ME X g B S (.Call (.Name "len" p) [e] [] pos) (m >>= fun xs => some (xs.length : Int)) (KI g) := by
  refine ⟨fun n q => ?_⟩
  obtain ⟨xs, q1, q2⟩ := bind_some q
  cases q2
  refine pe_imp (pe_callB call_len_seq hg hm PySem.boot_len (pa_cons (h.run xs q1) pa_nil he) (he := he) (hpl := hpl)) fun σ H Q ⟨I, hh, kk⟩ => ⟨I, hh, fun v I' H' x hv => ?_⟩
  obtain ⟨l, vs, rfl, h1, h2⟩ := r xs _ _ _ _ x.s hv
  refine ⟨l, vs, rfl, .inl (by rw [hK]; exact h1), ?_⟩
  rw [rl_len h2]
  exact kk _ I' H' x rfl
theorem me_sum {m : Option (List Int)} {k : List Int → RK} (hm : X.mg "sum" = none) (h : ME X g B S e m k) (r : LR g k := by first | exact lr_im | exact lr_fr | exact lr_rd) (hg : Gl X "sum" := by rfl) (hK : X.K = g.K := by rfl) (hc : X.calm = true := by rfl) (he : starEach [e] X.env = (false, eval e X.env) :: starEach [] X.env := by rfl) (hpl : (backTo pos (starEach [] X.env)).any (·.1) = false := by rfl) :
    ME X g B S (.Call (.Name "sum" p) [e] [] pos) (m >>= fun xs => some xs.sum) (KI g) := by
  refine ⟨fun n q => ?_⟩
  obtain ⟨xs, q1, q2⟩ := bind_some q
  cases q2
  refine pe_imp (pe_callB (cr_sum hc) hg hm (by decide +kernel) (pa_cons (h.run xs q1) pa_nil he) (he := he) (hpl := hpl)) fun σ H Q ⟨I, hh, kk⟩ => ⟨I, hh, fun v I' H' x hv => ?_⟩
  obtain ⟨l, vs, rfl, h1, h2⟩ := r xs _ _ _ _ x.s hv
  have e1 := vals_ints h2.2
  subst e1
  exact ⟨l, xs, rfl, by rw [hK]; exact h1, kk _ I' H' x rfl⟩
theorem me_call1B {id : String} {f x : Str} {rr : List V → Hp → VK → Prop} {m1 : Option α'} {k1 : α' → RK} {k2 : β' → RK} {fm : α' → Option β'} (hm : X.mg x = none) (hr : CallR X (.builtin id) rr) (hv : bootBuiltins x = some (.builtin id)) (h : ME X g B S e m1 k1)
    (hq : ∀ a b, fm a = some b → ∀ v H0 I H Q, Same I H → RK.holds g (k1 a) H0 v I H → (∀ u I' H', Ext I H I' H' → RK.holds g (k2 b) H u I' H' → Q u H') → rr [v] H Q) (hb : ∀ c q, k2 c ≠ .bw q := by intro _ _ z; cases z)
    (hg : Gl X x := by rfl) (hn : x ≠ "__name__" := by decide) (hdb : (x == ("__debug__" : Str)) = false := by decide) (he : starEach [e] X.env = (false, eval e X.env) :: starEach [] X.env := by rfl) (hpl : (backTo pos (starEach [] X.env)).any (·.1) = false := by rfl) :
    ME X g B S (.Call (.Name x p) [e] [] pos) (m1 >>= fm) k2 := by
  refine ⟨fun n q => ?_⟩
  obtain ⟨a, q1, q2⟩ := bind_some q
  refine pe_imp (pe_callB hr hg hm hv (pa_cons (h.run a q1) pa_nil he) hn hdb he hpl) fun σ H Q ⟨I, hh, kk⟩ => ⟨I, hh, fun v I' H' x hv => ?_⟩
  exact hq a n q2 v H I' H' Q x.s hv fun u I2 H2 x2 hu => kk u I2 H2 (x.trans x2) (RK.back (hb n) x.h hu)
theorem me_call2B {id : String} {x : Str} {rr : List V → Hp → VK → Prop} {γ' : Type} {m1 : Option α'} {m2 : Option γ'} {k1 : α' → RK} {k2 : γ' → RK} {k3 : β' → RK} {fm : α' → γ' → Option β'} (hm : X.mg x = none) (hr : CallR X (.builtin id) rr) (hv : bootBuiltins x = some (.builtin id)) (h : ME X g B S e m1 k1) (h2 : ME X g B S e2 m2 k2)
    (hq : ∀ a c b, fm a c = some b → ∀ v w H0 H1 I H Q, Same I H → RK.holds g (k1 a) H0 v I H → RK.holds g (k2 c) H1 w I H → (∀ u I' H', Ext I H I' H' → RK.holds g (k3 b) H u I' H' → Q u H') → rr [v, w] H Q) (hb : ∀ c q, k3 c ≠ .bw q := by intro _ _ z; cases z)
    (hg : Gl X x := by rfl) (hn : x ≠ "__name__" := by decide) (hdb : (x == ("__debug__" : Str)) = false := by decide) (he : starEach [e, e2] X.env = (false, eval e X.env) :: starEach [e2] X.env := by rfl) (he2 : starEach [e2] X.env = (false, eval e2 X.env) :: starEach [] X.env := by rfl) (hpl : (backTo pos (starEach [e2] X.env)).any (·.1) = false := by rfl) :
    ME X g B S (.Call (.Name x p) [e, e2] [] pos) (m1 >>= fun a => m2 >>= fun c => fm a c) k3 := by
  refine ⟨fun n q => ?_⟩
  obtain ⟨a, q1, q⟩ := bind_some q
  obtain ⟨c, q2, q3⟩ := bind_some q
  refine pe_imp (pe_callB hr hg hm hv (pa_cons (h.run a q1) (pa_cons (h2.run c q2) pa_nil he2) he) hn hdb he hpl) fun σ H Q ⟨I, hh, kk⟩ => ⟨I, hh, fun v I' H' x hv => ⟨I', hh.ext x, fun w I2 H2 x2 hw => ?_⟩⟩
  exact hq a c n q3 v w H H' I2 H2 Q x2.s (RK.ext hv x2) hw fun u I3 H3 x3 hu => kk u I3 H3 ((x.trans x2).trans x3) (RK.back (hb n) (x.trans x2).h hu)
theorem me_min {m1 m2 : Option Int} (hm : X.mg "min" = none) (h : ME X g B S e m1 (KI g)) (h2 : ME X g B S e2 m2 (KI g)) (hc : X.calm = true := by rfl) (hg : Gl X "min" := by rfl) (he : starEach [e, e2] X.env = (false, eval e X.env) :: starEach [e2] X.env := by rfl) (he2 : starEach [e2] X.env = (false, eval e2 X.env) :: starEach [] X.env := by rfl) (hpl : (backTo pos (starEach [e2] X.env)).any (·.1) = false := by rfl) :
    ME X g B S (.Call (.Name "min" p) [e, e2] [] pos) (m1 >>= fun a => m2 >>= fun c => some (min a c)) (KI g) :=
  me_call2B hm (call_min2 hc) (by decide +kernel) h h2 (fun a c b q v w H0 H1 I H Q s hv hw k => by
    cases q
    refine ⟨a, c, by cases hv; cases hw; rfl, ?_⟩
    have e : (if c < a then c else a) = min a c := by rw [Int.min_def]; split <;> split <;> omega
    rw [e]
    exact k _ _ _ (Ext.refl s) rfl) (hg := hg) (he := he) (he2 := he2) (hpl := hpl)
theorem me_max {m1 m2 : Option Int} (hm : X.mg "max" = none) (h : ME X g B S e m1 (KI g)) (h2 : ME X g B S e2 m2 (KI g)) (hc : X.calm = true := by rfl) (hg : Gl X "max" := by rfl) (he : starEach [e, e2] X.env = (false, eval e X.env) :: starEach [e2] X.env := by rfl) (he2 : starEach [e2] X.env = (false, eval e2 X.env) :: starEach [] X.env := by rfl) (hpl : (backTo pos (starEach [e2] X.env)).any (·.1) = false := by rfl) :
    ME X g B S (.Call (.Name "max" p) [e, e2] [] pos) (m1 >>= fun a => m2 >>= fun c => some (max a c)) (KI g) :=
  me_call2B hm (call_max2 hc) (by decide +kernel) h h2 (fun a c b q v w H0 H1 I H Q s hv hw k => by
    cases q
    refine ⟨a, c, by cases hv; cases hw; rfl, ?_⟩
    have e : (if c > a then c else a) = max a c := by rw [Int.max_def]; split <;> split <;> omega
    rw [e]
    exact k _ _ _ (Ext.refl s) rfl) (hg := hg) (he := he) (he2 := he2) (hpl := hpl)
theorem me_abs {m1 : Option Int} (hm : X.mg "abs" = none) (h : ME X g B S e m1 (KI g)) (hg : Gl X "abs" := by rfl) (he : starEach [e] X.env = (false, eval e X.env) :: starEach [] X.env := by rfl) (hpl : (backTo pos (starEach [] X.env)).any (·.1) = false := by rfl) :
    ME X g B S (.Call (.Name "abs" p) [e] [] pos) (m1 >>= fun a => some (a.natAbs : Int)) (KI g) :=
  me_call1B (f := "") hm call_abs (by decide +kernel) h (fun a b q v H0 I H Q s hv k => by
    cases q
    refine ⟨a, by cases hv; rfl, ?_⟩
    have e : (if a < 0 then -a else a) = (a.natAbs : Int) := by split <;> omega
    rw [e]
    exact k _ _ _ (Ext.refl s) rfl) (hg := hg) (he := he) (hpl := hpl)
theorem me_callTy1 {Ty : String} {x : Str} {rr : List V → Hp → VK → Prop} {m1 : Option α'} {k1 : α' → RK} {k2 : β' → RK} {fm : α' → Option β'} (hm : X.mg x = none) (hr : CallR X (.type Ty) rr) (hv : bootBuiltins x = some (.type Ty)) (h : ME X g B S e m1 k1)
    (hq : ∀ a b, fm a = some b → ∀ v H0 I H Q, Same I H → RK.holds g (k1 a) H0 v I H → (∀ u I' H', Ext I H I' H' → RK.holds g (k2 b) H u I' H' → Q u H') → rr [v] H Q) (hb : ∀ c q, k2 c ≠ .bw q := by intro _ _ z; cases z)
    (hg : Gl X x := by rfl) (hn : x ≠ "__name__" := by decide) (hdb : (x == ("__debug__" : Str)) = false := by decide) (he : starEach [e] X.env = (false, eval e X.env) :: starEach [] X.env := by rfl) (hpl : (backTo pos (starEach [] X.env)).any (·.1) = false := by rfl) :
    ME X g B S (.Call (.Name x p) [e] [] pos) (m1 >>= fm) k2 := by
  refine ⟨fun n q => ?_⟩
  obtain ⟨a, q1, q2⟩ := bind_some q
  refine pe_imp (pe_callTy hr hg hm hv (pa_cons (h.run a q1) pa_nil he) hn hdb he hpl) fun σ H Q ⟨I, hh, kk⟩ => ⟨I, hh, fun v I' H' x hv => ?_⟩
  exact hq a n q2 v H I' H' Q x.s hv fun u I2 H2 x2 hu => kk u I2 H2 (x.trans x2) (RK.back (hb n) x.h hu)
/-- int(a truth) -/
def b2z (b : Bool) : Int := if b = true then 1 else 0
theorem me_intB {m1 : Option Bool} (hm : X.mg "int" = none) (h : ME X g B S e m1 (KI g)) (hg : Gl X "int" := by rfl) (he : starEach [e] X.env = (false, eval e X.env) :: starEach [] X.env := by rfl) (hpl : (backTo pos (starEach [] X.env)).any (·.1) = false := by rfl) :
    ME X g B S (.Call (.Name "int" p) [e] [] pos) (m1 >>= fun a => some (b2z a)) (KI g) :=
  me_callTy1 hm call_int1 (by decide +kernel) h (fun a b q v H0 I H Q s hv k => by
    cases q
    exact .inr ⟨a, by cases hv; rfl, k _ _ _ (Ext.refl s) rfl⟩) (hg := hg) (he := he) (hpl := hpl)
/-- a list laid anew -/
theorem new_fr {as : List α} {vs : List V} {I H : Hp} {Q : VK} (s : Same I H) (h : (rl g as).p I vs) (k : ∀ u I' H', Ext I H I' H' → RK.holds g (.fr (rl g as)) H u I' H' → Q u H') {l : Addr} (hl : H l = none) : Q (.ref l) (upd H l (.lst vs)) := by
  have hI : I l = none := s.free hl
  refine k (.ref l) I _ ⟨Same.refl _, same_new hl, s.trans (same_new hl), fun _ _ h => h⟩ ⟨l, vs, rfl, hl, hI, upd_same, h⟩
theorem me_list (hm : X.mg "list" = none) (h : ME X g B S e m k) (r : LR g k := by first | exact lr_im | exact lr_fr | exact lr_rd) (hg : Gl X "list" := by rfl) (hK : X.K = g.K := by rfl) (he : starEach [e] X.env = (false, eval e X.env) :: starEach [] X.env := by rfl) (hpl : (backTo pos (starEach [] X.env)).any (·.1) = false := by rfl) :
    ME X g B S (.Call (.Name "list" p) [e] [] pos) (m >>= fun xs => some xs) (fun xs => .fr (rl g xs)) :=
  me_callTy1 hm call_list_of (by decide +kernel) h (fun a b q v H0 I H Q s hv kk => by
    cases q
    obtain ⟨l, vs, rfl, h1, h2⟩ := r a _ _ _ _ s hv
    exact ⟨l, vs, rfl, .inl (by rw [hK]; exact h1), fun p hp => new_fr s h2 kk hp⟩) (hg := hg) (he := he) (hpl := hpl)

/-! items -/
theorem me_ix {m2 : Option Int} (h1 : ME X g B S e1 m k) (h2 : ME X g B S e2 m2 (KI g)) (r : LR g k := by first | exact lr_im | exact lr_fr | exact lr_rd) (hK : X.K = g.K := by rfl) (hs : PlainIx e2 := by exact fun _ _ => rfl) : ME X g B S (.Subscript e1 e2 pos) (m >>= fun xs => m2 >>= fun i => atO xs i) (KI g) := by
  refine ⟨fun a q => ?_⟩
  obtain ⟨xs, q1, q⟩ := bind_some q
  obtain ⟨i, q2, q3⟩ := bind_some q
  rw [atO_eq] at q3
  refine pe_imp (pe_ix ix_list (h1.run xs q1) (h2.run i q2) hs) fun σ H Q ⟨I, hh, kk⟩ => ⟨I, hh, fun v I' H' x hv => ⟨I', hh.ext x, fun w I2 H2 x2 hw => ?_⟩⟩
  obtain ⟨l, vs, rfl, h3, h4⟩ := r xs _ _ _ _ x2.s (RK.ext hv x2)
  obtain ⟨u, hu, hq⟩ := paired_at h4.2 q3
  exact ⟨l, vs, i, u, rfl, hw, by rw [hK]; exact h3, hu, kk u I2 H2 (x.trans x2) hq⟩
/-- an item of a tuple at a written place -/
theorem me_tix {γ' : Type} [Py γ'] {m : Option γ'} (n : Nat) {j : Nat} {f : γ' → α} (h1 : ME X g B S e1 m (KI g)) (ht : ∀ (t : γ') I v, (Py.r g t).p I v → ∃ p vs u, v = .ref p ∧ SqT g.K I p vs ∧ vs[n]? = some u ∧ (Py.r g (f t)).p I u) (hK : X.K = g.K := by rfl) :
    ME X g B S (.Subscript e1 (.Constant (.int n) j pos') pos) (m >>= fun t => some (f t)) (KI g) := by
  refine ⟨fun a q => ?_⟩
  obtain ⟨t, q1, q⟩ := bind_some q
  cases q
  refine pe_imp (pe_ix ix_tup (h1.run t q1) pe_int (fun _ _ => rfl)) fun σ H Q ⟨I, hh, kk⟩ => ⟨I, hh, fun v I' H' x hv => ?_⟩
  obtain ⟨p, vs, u, rfl, h3, h4, h5⟩ := ht t _ _ hv
  exact ⟨p, vs, n, u, rfl, rfl, by rw [hK]; exact seqT x.s h3, atI_nat h4, kk u I' H' x h5⟩
end
section
variable {g : Gb} {α β γ δ : Type} [Py α] [Py β] [Py γ] [Py δ]
theorem t2_0 (t : T2 α β) (I v) (h : (Py.r g t).p I v) : ∃ p vs u, v = V.ref p ∧ SqT g.K I p vs ∧ vs[0]? = some u ∧ (Py.r g t.x0).p I u := by
  obtain ⟨p, a, b, rfl, h0, h1, h2⟩ := h; exact ⟨p, _, a, rfl, h0, rfl, h1⟩
theorem t2_1 (t : T2 α β) (I v) (h : (Py.r g t).p I v) : ∃ p vs u, v = V.ref p ∧ SqT g.K I p vs ∧ vs[1]? = some u ∧ (Py.r g t.x1).p I u := by
  obtain ⟨p, a, b, rfl, h0, h1, h2⟩ := h; exact ⟨p, _, b, rfl, h0, rfl, h2⟩
theorem t3_0 (t : T3 α β γ) (I v) (h : (Py.r g t).p I v) : ∃ p vs u, v = V.ref p ∧ SqT g.K I p vs ∧ vs[0]? = some u ∧ (Py.r g t.x0).p I u := by
  obtain ⟨p, a, b, c, rfl, h0, h1, h2, h3⟩ := h; exact ⟨p, _, a, rfl, h0, rfl, h1⟩
theorem t3_1 (t : T3 α β γ) (I v) (h : (Py.r g t).p I v) : ∃ p vs u, v = V.ref p ∧ SqT g.K I p vs ∧ vs[1]? = some u ∧ (Py.r g t.x1).p I u := by
  obtain ⟨p, a, b, c, rfl, h0, h1, h2, h3⟩ := h; exact ⟨p, _, b, rfl, h0, rfl, h2⟩
theorem t3_2 (t : T3 α β γ) (I v) (h : (Py.r g t).p I v) : ∃ p vs u, v = V.ref p ∧ SqT g.K I p vs ∧ vs[2]? = some u ∧ (Py.r g t.x2).p I u := by
  obtain ⟨p, a, b, c, rfl, h0, h1, h2, h3⟩ := h; exact ⟨p, _, c, rfl, h0, rfl, h3⟩
theorem t4_0 (t : T4 α β γ δ) (I v) (h : (Py.r g t).p I v) : ∃ p vs u, v = V.ref p ∧ SqT g.K I p vs ∧ vs[0]? = some u ∧ (Py.r g t.x0).p I u := by
  obtain ⟨p, a, b, c, d, rfl, h0, h1, h2, h3, h4⟩ := h; exact ⟨p, _, a, rfl, h0, rfl, h1⟩
theorem t4_1 (t : T4 α β γ δ) (I v) (h : (Py.r g t).p I v) : ∃ p vs u, v = V.ref p ∧ SqT g.K I p vs ∧ vs[1]? = some u ∧ (Py.r g t.x1).p I u := by
  obtain ⟨p, a, b, c, d, rfl, h0, h1, h2, h3, h4⟩ := h; exact ⟨p, _, b, rfl, h0, rfl, h2⟩
theorem t4_2 (t : T4 α β γ δ) (I v) (h : (Py.r g t).p I v) : ∃ p vs u, v = V.ref p ∧ SqT g.K I p vs ∧ vs[2]? = some u ∧ (Py.r g t.x2).p I u := by
  obtain ⟨p, a, b, c, d, rfl, h0, h1, h2, h3, h4⟩ := h; exact ⟨p, _, c, rfl, h0, rfl, h3⟩
theorem t4_3 (t : T4 α β γ δ) (I v) (h : (Py.r g t).p I v) : ∃ p vs u, v = V.ref p ∧ SqT g.K I p vs ∧ vs[3]? = some u ∧ (Py.r g t.x3).p I u := by
  obtain ⟨p, a, b, c, d, rfl, h0, h1, h2, h3, h4⟩ := h; exact ⟨p, _, d, rfl, h0, rfl, h4⟩
end
end T
set_option Elab.async false
set_option linter.all false
set_option maxRecDepth 100000
namespace T
open PySem PySem.Spec PyProof.Rows L2

/-! displays -/
/-- the items of a display, all of one type -/
structure ML {α : Type} [Py α] (X : Cx) (g : Gb) (B : Bs) (S : SL) (es : List Expr) (m : Option (List α)) : Prop where
  run : ∀ as, m = some as → PA X es (fun σ H Q => ∃ I, Hold g B S σ I H ∧ ∀ vs I' H', Ext I H I' H' → Paired (fun a v => (Py.r g a).p I' v) as vs → Q vs H') ∧ as.length = es.length
section
variable {X : Cx} {g : Gb} {B : Bs} {J : Hp} {S : SL} {e e1 e2 e3 tg : Expr} {es : List Expr} {pos pos' p : Pos} {o α' β' γ' ρ : Type} {K : KT o} {rest body : List Stmt} {α β γ δ : Type} [Py α] [Py β] [Py γ] [Py δ] {m : Option (List α)} {k : List α → RK}
theorem ml_nil : ML X g B S [] (some ([] : List α)) := ⟨fun as q => by cases q; exact ⟨pa_imp pa_nil fun σ H Q ⟨I, hh, kk⟩ => kk [] I H (Ext.refl hh.sub) .nil, rfl⟩⟩
theorem ml_cons {m1 : Option α} {m2 : Option (List α)} (h : ME X g B S e m1 (KI g)) (t : ML X g B S es m2) (hs : starEach (e :: es) X.env = (false, eval e X.env) :: starEach es X.env := by rfl) : ML X g B S (e :: es) (m1 >>= fun a => m2 >>= fun as => some (a :: as)) := by
  refine ⟨fun as q => ?_⟩
  obtain ⟨a, q1, q⟩ := bind_some q
  obtain ⟨as', q2, q3⟩ := bind_some q
  cases q3
  obtain ⟨ht, hl⟩ := t.run as' q2
  refine ⟨pa_imp (pa_cons (h.run a q1) ht hs) fun σ H Q ⟨I, hh, kk⟩ => ⟨I, hh, fun v I1 H1 x1 hv => ⟨I1, hh.ext x1, fun vs I2 H2 x2 hvs => ?_⟩⟩, by rw [List.length_cons, List.length_cons, hl]⟩
  exact kk (v :: vs) I2 H2 (x1.trans x2) (.cons ((Py.r g a).mono x2.i hv) hvs)
theorem me_lst (h : ML X g B S es m) (hz : decide (es.length ≤ 1000) = true := by decide) : ME X g B S (.List es pos) m (fun xs => .fr (rl g xs)) := by
  refine ⟨fun as q => ?_⟩
  obtain ⟨ha, hl⟩ := h.run as q
  refine pe_imp (pe_lst ha) fun σ H Q ⟨I, hh, kk⟩ => ⟨I, hh, fun vs I1 H1 x1 hp => ?_⟩
  have hz' : as.length ≤ sizeLine := by rw [hl]; exact Nat.le_trans (of_decide_eq_true hz) (by decide)
  refine ⟨by rw [← Paired.length hp]; exact hz', fun l hl => new_fr (as := as) x1.s ⟨hz', hp⟩ (fun u I2 H2 x2 hu => kk u I2 H2 (x1.trans x2) (RK.back (fun _ z => by cases z) x1.h hu)) hl⟩
theorem me_t2 {m1 : Option α} {m2 : Option β} {n : Nat} (h1 : ME X g B S e1 m1 (KI g)) (h2 : ME X g B S e2 m2 (KI g)) (hs : starEach [e1, e2] X.env = (false, eval e1 X.env) :: starEach [e2] X.env := by rfl) (hs2 : starEach [e2] X.env = (false, eval e2 X.env) :: starEach [] X.env := by rfl) :
    ME X g B S (.Tuple [e1, e2] n pos) (m1 >>= fun a => m2 >>= fun b => some (T2.mk a b)) (KI g) := by
  refine ⟨fun t q => ?_⟩
  obtain ⟨a, q1, q⟩ := bind_some q
  obtain ⟨b, q2, q3⟩ := bind_some q
  cases q3
  refine pe_imp (pe_tup (pa_cons (h1.run a q1) (pa_cons (h2.run b q2) pa_nil hs2) hs)) fun σ H Q ⟨I, hh, kk⟩ => ⟨I, hh, fun v I1 H1 x1 hv => ⟨I1, hh.ext x1, fun w I2 H2 x2 hw => ⟨by show 2 ≤ sizeLine; decide, fun l hl => ?_⟩⟩⟩
  have hI := x2.s.free hl
  refine kk _ (upd I2 l (.tup [v, w])) _ ((x1.trans x2).trans ⟨same_new hI, same_new hl, fun b ob eb => ?_, fun b n1 n2 => ?_⟩) ⟨l, v, w, rfl, SqT.of upd_same, (Py.r g a).mono (x2.i.trans (same_new hI)) hv, (Py.r g b).mono (same_new hI) hw⟩
  · by_cases hb : b = l
    · subst hb; rw [upd_same] at eb ⊢; exact eb
    · rw [upd_ne hb] at eb ⊢; exact x2.s _ _ eb
  · rw [upd_ne (fun z => n1 (by rw [z]; exact hl))]; exact n2
theorem me_t3 {m1 : Option α} {m2 : Option β} {m3 : Option γ} {n : Nat} (h1 : ME X g B S e1 m1 (KI g)) (h2 : ME X g B S e2 m2 (KI g)) (h3 : ME X g B S e3 m3 (KI g)) (hs : starEach [e1, e2, e3] X.env = (false, eval e1 X.env) :: starEach [e2, e3] X.env := by rfl) (hs2 : starEach [e2, e3] X.env = (false, eval e2 X.env) :: starEach [e3] X.env := by rfl) (hs3 : starEach [e3] X.env = (false, eval e3 X.env) :: starEach [] X.env := by rfl) :
    ME X g B S (.Tuple [e1, e2, e3] n pos) (m1 >>= fun a => m2 >>= fun b => m3 >>= fun c => some (T3.mk a b c)) (KI g) := by
  refine ⟨fun t q => ?_⟩
  obtain ⟨a, q1, q⟩ := bind_some q
  obtain ⟨b, q2, q⟩ := bind_some q
  obtain ⟨c, q3, q4⟩ := bind_some q
  cases q4
  refine pe_imp (pe_tup (pa_cons (h1.run a q1) (pa_cons (h2.run b q2) (pa_cons (h3.run c q3) pa_nil hs3) hs2) hs)) fun σ H Q ⟨I, hh, kk⟩ => ⟨I, hh, fun v I1 H1 x1 hv => ⟨I1, hh.ext x1, fun w I2 H2 x2 hw => ⟨I2, (hh.ext x1).ext x2, fun u I3 H3 x3 hu => ⟨by show 3 ≤ sizeLine; decide, fun l hl => ?_⟩⟩⟩⟩
  have hI := x3.s.free hl
  refine kk _ (upd I3 l (.tup [v, w, u])) _ (((x1.trans x2).trans x3).trans ⟨same_new hI, same_new hl, fun b ob eb => ?_, fun b n1 n2 => ?_⟩) ⟨l, v, w, u, rfl, SqT.of upd_same, (Py.r g a).mono ((x2.i.trans x3.i).trans (same_new hI)) hv, (Py.r g b).mono (x3.i.trans (same_new hI)) hw, (Py.r g c).mono (same_new hI) hu⟩
  · by_cases hb : b = l
    · subst hb; rw [upd_same] at eb ⊢; exact eb
    · rw [upd_ne hb] at eb ⊢; exact x3.s _ _ eb
  · rw [upd_ne (fun z => n1 (by rw [z]; exact hl))]; exact n2
theorem me_t4 {e4 : Expr} {m1 : Option α} {m2 : Option β} {m3 : Option γ} {m4 : Option δ} {n : Nat} (h1 : ME X g B S e1 m1 (KI g)) (h2 : ME X g B S e2 m2 (KI g)) (h3 : ME X g B S e3 m3 (KI g)) (h4 : ME X g B S e4 m4 (KI g)) (hs : starEach [e1, e2, e3, e4] X.env = (false, eval e1 X.env) :: starEach [e2, e3, e4] X.env := by rfl) (hs2 : starEach [e2, e3, e4] X.env = (false, eval e2 X.env) :: starEach [e3, e4] X.env := by rfl) (hs3 : starEach [e3, e4] X.env = (false, eval e3 X.env) :: starEach [e4] X.env := by rfl) (hs4 : starEach [e4] X.env = (false, eval e4 X.env) :: starEach [] X.env := by rfl) :
    ME X g B S (.Tuple [e1, e2, e3, e4] n pos) (m1 >>= fun a => m2 >>= fun b => m3 >>= fun c => m4 >>= fun d => some (T4.mk a b c d)) (KI g) := by
  refine ⟨fun t q => ?_⟩
  obtain ⟨a, q1, q⟩ := bind_some q
  obtain ⟨b, q2, q⟩ := bind_some q
  obtain ⟨c, q3, q⟩ := bind_some q
  obtain ⟨d, q4, q5⟩ := bind_some q
  cases q5
  refine pe_imp (pe_tup (pa_cons (h1.run a q1) (pa_cons (h2.run b q2) (pa_cons (h3.run c q3) (pa_cons (h4.run d q4) pa_nil hs4) hs3) hs2) hs)) fun σ H Q ⟨I, hh, kk⟩ => ⟨I, hh, fun v I1 H1 x1 hv => ⟨I1, hh.ext x1, fun w I2 H2 x2 hw => ⟨I2, (hh.ext x1).ext x2, fun u I3 H3 x3 hu => ⟨I3, ((hh.ext x1).ext x2).ext x3, fun y I4 H4 x4 hy => ⟨by show 4 ≤ sizeLine; decide, fun l hl => ?_⟩⟩⟩⟩⟩
  have hI := x4.s.free hl
  refine kk _ (upd I4 l (.tup [v, w, u, y])) _ ((((x1.trans x2).trans x3).trans x4).trans ⟨same_new hI, same_new hl, fun b ob eb => ?_, fun b n1 n2 => ?_⟩) ⟨l, v, w, u, y, rfl, SqT.of upd_same, (Py.r g a).mono (((x2.i.trans x3.i).trans x4.i).trans (same_new hI)) hv, (Py.r g b).mono ((x3.i.trans x4.i).trans (same_new hI)) hw, (Py.r g c).mono (x4.i.trans (same_new hI)) hu, (Py.r g d).mono (same_new hI) hy⟩
  · by_cases hb : b = l
    · subst hb; rw [upd_same] at eb ⊢; exact eb
    · rw [upd_ne hb] at eb ⊢; exact x4.s _ _ eb
  · rw [upd_ne (fun z => n1 (by rw [z]; exact hl))]; exact n2
end

/-! slices, +, * of lists -/
/-- xs[lo:hi] -/
def cutO {α : Type} (xs : List α) (lo hi : Option Int) : List α := (xs.drop (HT.sIx xs.length 0 lo)).take (HT.sIx xs.length xs.length hi - HT.sIx xs.length 0 lo)
structure MO (X : Cx) (g : Gb) (B : Bs) (S : SL) (e : Option Expr) (m : Option (Option Int)) : Prop where
  run : ∀ i, m = some i → PO X e (fun σ H Q => ∃ I, Hold g B S σ I H ∧ ∀ I' H', Ext I H I' H' → Q i H')
def catOk (n k : Nat) : Bool := decide (n + k ≤ sizeLine)
@[irreducible] def catO {α : Type} (xs ys : List α) : Option (List α) := if catOk xs.length ys.length = true then some (xs ++ ys) else none
def repOk (n : Nat) (k : Int) : Bool := decide (-(2 ^ 63) ≤ k ∧ k < 2 ^ 63) && decide (n * k.toNat ≤ sizeLine)
@[irreducible] def repO {α : Type} (xs : List α) (k : Int) : Option (List α) := if repOk xs.length k = true then some (List.replicate k.toNat xs).flatten else none
section
variable {X : Cx} {g : Gb} {B : Bs} {J : Hp} {S : SL} {e e1 e2 e3 tg : Expr} {oe oe2 : Option Expr} {es : List Expr} {pos pos' p p2 : Pos} {o α' β' γ' ρ : Type} {K : KT o} {rest body : List Stmt} {α β γ δ : Type} [Py α] [Py β] [Py γ] [Py δ] {m : Option (List α)} {k k2 : List α → RK}
theorem po_imp {t t' : TO} (h : PO X oe t) (f : ∀ σ H Q, t' σ H Q → t σ H Q) : PO X oe t' := ⟨fun pins s σ H Q I hw => h.run pins s σ H Q I (f σ H Q hw)⟩
theorem mo_none : MO X g B S none (some none) := ⟨fun i q => by cases q; exact po_imp po_none fun σ H Q ⟨I, hh, kk⟩ => kk I H (Ext.refl hh.sub)⟩
theorem mo_some {m : Option Int} (h : ME X g B S e m (KI g)) : MO X g B S (some e) (m >>= fun i => some (some i)) := by
  refine ⟨fun i q => ?_⟩
  obtain ⟨a, q1, q2⟩ := bind_some q
  cases q2
  exact po_imp (po_some (h.run a q1)) fun σ H Q ⟨I, hh, kk⟩ => ⟨I, hh, fun v I' H' x hv => ⟨a, hv, kk I' H' x⟩⟩
theorem me_cut {m1 m2 : Option (Option Int)} (h : ME X g B S e m k) (h1 : MO X g B S oe m1) (h2 : MO X g B S oe2 m2) (r : LR g k := by first | exact lr_im | exact lr_fr | exact lr_rd) (hK : X.K = g.K := by rfl) :
    ME X g B S (.Subscript e (.Slice oe oe2 none p2) pos) (m >>= fun xs => m1 >>= fun lo => m2 >>= fun hi => some (cutO xs lo hi)) (fun xs => .fr (rl g xs)) := by
  refine ⟨fun as q => ?_⟩
  obtain ⟨xs, q1, q⟩ := bind_some q
  obtain ⟨lo, q2, q⟩ := bind_some q
  obtain ⟨hi, q3, q4⟩ := bind_some q
  cases q4
  refine pe_imp (pe_slice sl_list (h.run xs q1) (h1.run lo q2) (h2.run hi q3)) fun σ H Q ⟨I, hh, kk⟩ => ⟨I, hh, fun v I1 H1 x1 hv => ⟨I1, hh.ext x1, fun I2 H2 x2 => ⟨I2, (hh.ext x1).ext x2, fun I3 H3 x3 => ?_⟩⟩⟩
  obtain ⟨l, vs, rfl, h3, h4⟩ := r xs _ _ _ _ x3.s (RK.ext (RK.ext hv x2) x3)
  refine ⟨l, vs, rfl, by rw [hK]; exact h3, fun p hp => ?_⟩
  have hlen := rl_len h4
  refine new_fr (as := cutO xs lo hi) x3.s ?_ (fun u I4 H4 x4 hu => kk u I4 H4 (((x1.trans x2).trans x3).trans x4) (RK.back (fun _ z => by cases z) ((x1.trans x2).trans x3).h hu)) hp
  unfold cutO cutV
  rw [hlen]
  refine ⟨?_, paired_take _ (paired_drop _ h4.2)⟩
  rw [List.length_take, List.length_drop]
  have := h4.1
  omega
theorem op_catS : OpR X (binaryOp .Add) (fun x y H Q => ∃ l b xs zs, x = .ref l ∧ y = .ref b ∧ SqL X.K H l xs ∧ SqL X.K H b zs ∧ xs.length + zs.length ≤ sizeLine ∧ ∀ p, H p = none → Q (.ref p) (upd H p (.lst (xs ++ zs)))) := by
  intro pins s σ H x y v u Q I rx ry h
  obtain ⟨l, b, xs, zs, rfl, rfl, hH, hB, hz, q⟩ := h
  cases rx
  cases ry
  obtain ⟨its, r, pl, z⟩ := I.list hH
  obtain ⟨its2, r2, pl2, z2⟩ := I.list hB
  have hl := r.length
  have hl2 := r2.length
  obtain ⟨⟨cls, dd, data, sl⟩, ho, hc, n, hd⟩ := pl.isList
  obtain ⟨⟨cls2, dd2, data2, sl2⟩, ho2, hc2, n2, hd2⟩ := pl2.isList
  simp only at hc hd hc2 hd2
  subst hc hd hc2 hd2
  have ea : its.toArray ++ its2.toArray = (its ++ its2).toArray := by simp
  refine concat_meets ⟨_, ho, rfl⟩ ⟨_, ho2, rfl⟩ noFill_list_add seq_list_add PySem.F.slot_list_add PySem.F.entry_list_add (PySem.F.args_list_add_2 _ _) (list_addW l b its.toArray its2.toArray n n2 dd dd2 sl sl2 (by rw [List.size_toArray, List.size_toArray]; omega)) ⟨ho, ho2, ?_⟩
  rw [ea]
  exact ⟨.ref _, _, I.lnew (t' := s.toks) (r.append r2) (by rw [List.length_append]; omega), rfl, q _ I.fresh⟩
theorem me_cat {m2 : Option (List α)} (h : ME X g B S e1 m k) (h2 : ME X g B S e2 m2 k2) (r : LR g k := by first | exact lr_im | exact lr_fr | exact lr_rd) (r2 : LR g k2 := by first | exact lr_im | exact lr_fr | exact lr_rd) (hK : X.K = g.K := by rfl) :
    ME X g B S (.BinOp e1 .Add e2 pos) (m >>= fun xs => m2 >>= fun ys => catO xs ys) (fun xs => .fr (rl g xs)) :=
  me_bin op_catS h h2 (fun a b c q v w I H H0 H1 Q s hv hw kk => by
    unfold catO at q
    by_cases hc : catOk a.length b.length = true
    · rw [if_pos hc] at q
      cases q
      obtain ⟨l, vs, rfl, h3, h4⟩ := r a _ _ _ _ s hv
      obtain ⟨l2, ws, rfl, h5, h6⟩ := r2 b _ _ _ _ s hw
      have hz : a.length + b.length ≤ sizeLine := of_decide_eq_true hc
      refine ⟨l, l2, vs, ws, rfl, rfl, by rw [hK]; exact h3, by rw [hK]; exact h5, by rw [rl_len h4, rl_len h6]; exact hz, fun p hp => new_fr (as := a ++ b) s ⟨by rw [List.length_append]; exact hz, paired_app h4.2 h6.2⟩ kk hp⟩
    · rw [if_neg hc] at q
      cases q)
theorem me_rep {m2 : Option Int} (h : ME X g B S e1 m (fun xs => .fr (rl g xs))) (h2 : ME X g B S e2 m2 (KI g)) :
    ME X g B S (.BinOp e1 .Mult e2 pos) (m >>= fun xs => m2 >>= fun n => repO xs n) (fun xs => .fr (rl g xs)) :=
  me_bin op_rep h h2 (fun a b c q v w I H H0 H1 Q s hv hw kk => by
    unfold repO at q
    by_cases hc : repOk a.length b = true
    · rw [if_pos hc] at q
      cases q
      obtain ⟨l, vs, rfl, _, _, h3, h4⟩ := hv
      unfold repOk at hc
      rw [Bool.and_eq_true, decide_eq_true_eq, decide_eq_true_eq] at hc
      have hl := rl_len h4
      refine ⟨l, b, vs, rfl, hw, h3, hc.1.1, hc.1.2, by rw [hl]; exact hc.2, fun p hp => new_fr (as := (List.replicate b.toNat a).flatten) s ⟨?_, paired_rep h4.2 _⟩ kk hp⟩
      rw [List.length_flatten, List.map_replicate, List.sum_replicate_nat, Nat.mul_comm]
      exact hc.2
    · rw [if_neg hc] at q
      cases q)
end
/-- xs.append(x) -/
@[irreducible] def appO {α : Type} (xs : List α) (x : α) : Option (List α) := if decide (xs.length < sizeLine) = true then some (xs ++ [x]) else none
@[irreducible] def setO {α : Type} (xs : List α) (i : Int) (x : α) : Option (List α) := (ixN xs.length i).bind fun j => some (xs.set j x)
section
variable {X : Cx} {g : Gb} {B : Bs} {J : Hp} {S : SL} {e e1 e2 e3 tg : Expr} {es : List Expr} {pos pos' p p2 p3 : Pos} {o α' β' γ' ρ : Type} {K : KT o} {rest body : List Stmt} {α β γ δ : Type} [Py α] [Py β] [Py γ] [Py δ]
/-- an owned list written -/
theorem Ok.write {σ : L2.St} {I H : Hp} {i : Nat} {l : Addr} {q0 : PL} {bs : List α} {ws : List V} (ok : Ok g B J S σ I H) (hS : S[i]? = some (some (.fr q0))) (e1 : σ[i]? = some (some (.ref l))) (hw : (rl g bs).p I ws) : Ok g B J (S.set i (some (.fr (rl g bs)))) σ I (upd H l (.lst ws)) := by
  have own : Own S σ i l := ⟨⟨_, hS⟩, e1⟩
  obtain ⟨o1, o2, o3⟩ := ok.h.own own
  have sB : Same B.H (upd H l (.lst ws)) := fun b ob eb => by
    rw [upd_ne (ne_of_none eb o3)]
    exact ok.h.base _ _ eb
  have sI : Same I (upd H l (.lst ws)) := fun b ob eb => by
    rw [upd_ne (ne_of_none eb o2)]
    exact ok.h.sub _ _ eb
  refine ⟨⟨ok.x.i, sB, sI, ok.x.n⟩, ok.j, ⟨by rw [List.length_set]; exact ok.h.len, sI, sB, fun j k' e => ?_, fun a b l' ⟨⟨qa, ea⟩, ha⟩ ⟨⟨qb, eb⟩, hb⟩ => ?_, fun j q e => (set_some e).elim (fun ⟨_, z, _⟩ => (by cases z)) fun ⟨_, z⟩ => ok.h.nr j q z⟩⟩
  · rcases set_some e with ⟨a, b, c⟩ | ⟨a, b⟩
    · subst a
      cases b
      exact ⟨_, e1, l, ws, rfl, o3, o2, upd_same, hw⟩
    · obtain ⟨w, e2, h5⟩ := ok.h.at_ j k' b
      refine ⟨w, e2, ?_⟩
      cases k' with
      | im p => exact h5
      | fr q' =>
        obtain ⟨l', vs', rfl, g1, g2, g3, g4⟩ := h5
        have hne : l' ≠ l := fun z => by
          subst z
          exact a (ok.h.ne i j l' own ⟨⟨_, b⟩, e2⟩)
        exact ⟨l', vs', rfl, g1, g2, by rw [upd_ne hne]; exact g3, g4⟩
      | bw q' => exact h5
      | rd q' => exact absurd b (ok.h.nr j q')
  · have ua : ∃ q : PL, S[a]? = some (some (RK.fr q)) := by
      rcases set_some ea with ⟨z, _, _⟩ | ⟨_, z⟩
      · subst z; exact ⟨_, hS⟩
      · exact ⟨_, z⟩
    have ub : ∃ q : PL, S[b]? = some (some (RK.fr q)) := by
      rcases set_some eb with ⟨z, _, _⟩ | ⟨_, z⟩
      · subst z; exact ⟨_, hS⟩
      · exact ⟨_, z⟩
    exact ok.h.ne a b l' ⟨ua, ha⟩ ⟨ub, hb⟩
end
end T
set_option Elab.async false
set_option linter.all false
set_option maxRecDepth 100000
namespace T
open PySem PySem.Spec PyProof.Rows L2

/-! lists that stand still through a loop: those that stay, and the caller's -/
structure MSt {α : Type} [Py α] (X : Cx) (g : Gb) (B : Bs) (S : SL) (e : Expr) (m : Option (List α)) : Prop where
  run : ∀ as, m = some as → PE X e (fun σ H Q => ∃ I, Hold g B S σ I H ∧ ∀ l vs I' H', Ext I H I' H' → (SqL g.K I' l vs ∨ SqL g.K B.H l vs) → (rl g as).p I' vs → Q (.ref l) H')
section
variable {X : Cx} {g : Gb} {B : Bs} {J : Hp} {S : SL} {e e1 e2 e3 tg : Expr} {oe oe2 : Option Expr} {es : List Expr} {pos pos' p p2 p3 apos cpos : Pos} {o α' β' γ' ρ : Type} {K : KT o} {rest body : List Stmt} {α β γ δ : Type} [Py α] [Py β] [Py γ] [Py δ] {m : Option (List α)} {k k2 : List α → RK}
theorem ms_im (h : ME X g B S e m (KI g)) : MSt X g B S e m :=
  ⟨fun as q => pe_imp (h.run as q) fun σ H Q ⟨I, hh, k⟩ => ⟨I, hh, fun v I' H' x ⟨l, vs, e, h1, h2⟩ => e ▸ k l vs I' H' x (.inl h1) h2⟩⟩
theorem ms_bw (i : Nat) {x : Str} {as : List α} (hS : S[i]? = some (some (.bw (rl g as))) := by rfl) (hN : X.N[i]? = some x := by rfl) (hv : Vis X.env.scope x := by first | exact Or.inl rfl | exact Or.inr (Or.inl rfl) | exact Or.inr (Or.inr rfl))
    (hd : (x == ("__debug__" : Str)) = false := by decide) (hcd : (x == ("__classdict__" : Str)) = false := by decide) : MSt X g B S (.Name x pos) (some as) := by
  refine ⟨fun as' q => ?_⟩
  cases q
  refine pe_imp (pe_var hN hv hd hcd) fun σ H Q ⟨I, hh, k⟩ => ?_
  obtain ⟨v, e1, l, vs, rfl, h3, h4⟩ := hh.at_ i _ hS
  exact ⟨_, e1, k l vs I H (Ext.refl hh.sub) (.inr h3) h4⟩
theorem sq_now {I1 I2 H2 BH : Hp} {K : PySem.W.Frag} {l : Addr} {vs : List V} (h : SqL K I1 l vs ∨ SqL K BH l vs) (s1 : Same I1 I2) (s2 : Same I2 H2) (s3 : Same BH H2) : SqL K H2 l vs := h.elim (fun z => s2.seq (s1.seq z)) fun z => s3.seq z
theorem mi_lst (h : MSt X g B S e m) (hg : X.K = g.K := by rfl) : MI X g B S tg e m := by
  refine ⟨fun as q => ?_⟩
  refine pi_imp (pi_list (h.run as q)) fun σ H R ⟨I, hh, k⟩ => ⟨I, hh, fun l vs I' H' x h1 h2 => ?_⟩
  rw [hg]
  exact ⟨l, rfl, ⟨vs, sq_now h1 (Same.refl _) x.s (hh.base.trans x.h)⟩, k _ I' H' x (walk_list h1 h2)⟩
/-- places and items -/
def enumL {α : Type} (as : List α) : List (T2 Int α) := (as.zipIdx).map fun p => T2.mk (p.2 : Int) p.1
theorem enum_get {as : List α} {i : Nat} {t : T2 Int α} (h : (enumL as)[i]? = some t) : ∃ a, as[i]? = some a ∧ t = T2.mk (i : Int) a := by
  unfold enumL at h
  rw [List.getElem?_map, List.getElem?_zipIdx] at h
  cases q : as[i]? with
  | none => rw [q] at h; cases h
  | some a =>
    rw [q] at h
    refine ⟨a, rfl, ?_⟩
    have := Option.some.inj h
    rw [← this]
    simp
theorem enum_len {as : List α} : (enumL as).length = as.length := by
  unfold enumL
  rw [List.length_map, List.length_zipIdx]
theorem new_tup {I H : Hp} {T : Addr} {xs : List V} (s : Same I H) (h : H T = none) : Ext I H (upd I T (.tup xs)) (upd H T (.tup xs)) := by
  have hI := s.free h
  refine ⟨same_new hI, same_new h, fun b ob eb => ?_, fun b n1 n2 => ?_⟩
  · by_cases hb : b = T
    · subst hb; rw [upd_same] at eb ⊢; exact eb
    · rw [upd_ne hb] at eb ⊢; exact s _ _ eb
  · rw [upd_ne (fun z => n1 (by rw [z]; exact h))]; exact n2
theorem walk_enum {as : List α} {a : Addr} {vs : List V} {I1 : Hp} (hL : SqL g.K I1 a vs ∨ SqL g.K B.H a vs) (hR : (rl g as).p I1 vs) : WalkI g B (Ite g.K a) (enumL as) I1 where
  go := fun i x I2 H2 e s1 s2 s3 => by
    obtain ⟨b, e1, _⟩ := enum_get e
    obtain ⟨v, e2, _⟩ := paired_get hR.2 e1
    exact ⟨vs, v, sq_now hL s1 s2 s3, e2⟩
  yl := fun i x I2 H2 v H' e s1 s2 s3 y => by
    obtain ⟨b, e1, rfl⟩ := enum_get e
    obtain ⟨u, e2, q⟩ := paired_get hR.2 e1
    obtain ⟨T, x, rfl, hT, rfl, y⟩ := y
    have e3 := y vs (sq_now hL s1 s2 s3)
    rw [e2] at e3
    cases e3
    refine ⟨_, new_tup s2 hT, T, _, _, rfl, SqT.of upd_same, rfl, (Py.r g b).mono (s1.trans (same_new (s2.free hT))) q⟩
  st := fun I2 H2 s1 s2 s3 => ⟨vs, sq_now hL s1 s2 s3, by rw [enum_len]; exact Nat.le_of_eq (rl_len hR)⟩
  len := by rw [enum_len]; exact hR.1
theorem mi_enum {elts : List Expr} {kk : Nat} {tpos : Pos} (hm : X.mg "enumerate" = none) (h : MSt X g B S e m) (hg : Gl X "enumerate" := by rfl) (hK : X.K = g.K := by rfl) (hs : starEach [e] X.env = [(false, eval e X.env)] := by rfl) : MI X g B S (.Tuple elts kk tpos) (.Call (.Name "enumerate" p) [e] [] pos) (m >>= fun as => some (enumL as)) := by
  refine ⟨fun as q => ?_⟩
  obtain ⟨xs, q1, q2⟩ := bind_some q
  cases q2
  refine pi_imp (pi_enum hg hm (pa_cons (h.run xs q1) pa_nil hs) hs) fun σ H R ⟨I, hh, k⟩ => ⟨I, hh, fun l vs I' H' x h1 h2 => ?_⟩
  rw [hK]
  exact ⟨l, vs, rfl, sq_now h1 (Same.refl _) x.s (hh.base.trans x.h), k _ I' H' x (walk_enum h1 h2)⟩
/-- items in pairs -/
def zipL {α β : Type} (as : List α) (bs : List β) : List (T2 α β) := (as.zip bs).map fun p => T2.mk p.1 p.2
theorem zip_get {as : List α} {bs : List β} {i : Nat} {t : T2 α β} (h : (zipL as bs)[i]? = some t) : ∃ a b, as[i]? = some a ∧ bs[i]? = some b ∧ t = T2.mk a b := by
  unfold zipL at h
  rw [List.getElem?_map, Option.map_eq_some_iff] at h
  obtain ⟨⟨a, b⟩, h1, rfl⟩ := h
  obtain ⟨h2, h3⟩ := List.getElem?_zip_eq_some.mp h1
  exact ⟨a, b, h2, h3, rfl⟩
theorem zip_len {as : List α} {bs : List β} : (zipL as bs).length = min as.length bs.length := by
  unfold zipL
  rw [List.length_map, List.length_zip]
theorem walk_zip {as : List α} {bs : List β} {a b : Addr} {vs ws : List V} {I1 : Hp} (hL : SqL g.K I1 a vs ∨ SqL g.K B.H a vs) (hR : (rl g as).p I1 vs) (hL2 : SqL g.K I1 b ws ∨ SqL g.K B.H b ws) (hR2 : (rl g bs).p I1 ws) : WalkI g B (Itz g.K a b) (zipL as bs) I1 where
  go := fun i x I2 H2 e s1 s2 s3 => by
    obtain ⟨c, d, e1, e2, _⟩ := zip_get e
    obtain ⟨v, e3, _⟩ := paired_get hR.2 e1
    obtain ⟨w, e4, _⟩ := paired_get hR2.2 e2
    exact ⟨vs, ws, v, w, sq_now hL s1 s2 s3, sq_now hL2 s1 s2 s3, e3, e4⟩
  yl := fun i x I2 H2 v H' e s1 s2 s3 y => by
    obtain ⟨c, d, e1, e2, rfl⟩ := zip_get e
    obtain ⟨u, e3, q⟩ := paired_get hR.2 e1
    obtain ⟨u2, e4, q2⟩ := paired_get hR2.2 e2
    obtain ⟨T, x, x2, rfl, hT, rfl, y1, y2⟩ := y
    have e5 := y1 vs (sq_now hL s1 s2 s3)
    have e6 := y2 ws (sq_now hL2 s1 s2 s3)
    rw [e3] at e5
    rw [e4] at e6
    cases e5
    cases e6
    have sT := s1.trans (same_new (o := .tup [u, u2]) (s2.free hT))
    exact ⟨_, new_tup s2 hT, T, _, _, rfl, SqT.of upd_same, (Py.r g c).mono sT q, (Py.r g d).mono sT q2⟩
  st := fun I2 H2 s1 s2 s3 => ⟨vs, ws, sq_now hL s1 s2 s3, sq_now hL2 s1 s2 s3, by
    rw [zip_len, rl_len hR, rl_len hR2]
    omega⟩
  len := by
    rw [zip_len]
    have := hR.1
    omega
theorem mi_zip {elts : List Expr} {kk : Nat} {tpos : Pos} {m2 : Option (List β)} (hm : X.mg "zip" = none) (h : MSt X g B S e m) (h2 : MSt X g B S e2 m2) (hg : Gl X "zip" := by rfl) (hK : X.K = g.K := by rfl) (hs : starEach [e, e2] X.env = (false, eval e X.env) :: starEach [e2] X.env := by rfl) (hs2 : starEach [e2] X.env = (false, eval e2 X.env) :: starEach [] X.env := by rfl) (hpl : (backTo pos (starEach [e2] X.env)).any (·.1) = false := by rfl) :
    MI X g B S (.Tuple elts kk tpos) (.Call (.Name "zip" p) [e, e2] [] pos) (m >>= fun as => m2 >>= fun bs => some (zipL as bs)) := by
  refine ⟨fun as q => ?_⟩
  obtain ⟨xs, q1, q⟩ := bind_some q
  obtain ⟨ys, q2, q3⟩ := bind_some q
  cases q3
  refine pi_imp (pi_zip hg hm (pa_cons (h.run xs q1) (pa_cons (h2.run ys q2) pa_nil hs2) hs) hs hpl) fun σ H R ⟨I, hh, k⟩ => ⟨I, hh, fun l vs I1 H1 x1 h1 hr => ⟨I1, hh.ext x1, fun l2 ws I2 H2 x2 h3 hr2 => ?_⟩⟩
  rw [hK]
  have h1' : SqL g.K I2 l vs ∨ SqL g.K B.H l vs := h1.imp (fun z => x2.i.seq z) id
  have sb := (hh.base.trans x1.h).trans x2.h
  exact ⟨l, l2, vs, ws, rfl, sq_now h1' (Same.refl _) x2.s sb, sq_now h3 (Same.refl _) x2.s sb, k _ I2 H2 (x1.trans x2) (walk_zip h1' ((rl g xs).mono x2.i hr) h3 hr2)⟩

/-! targets -/
theorem mg_t2 (i j : Nat) {x y : Str} {k : Nat} (hN : X.N.Nodup) (hi : X.N[i]? = some x := by rfl) (hj : X.N[j]? = some y := by rfl) (hx : Loc X.env.scope x := by first | exact Or.inl rfl | exact Or.inr rfl) (hy : Loc X.env.scope y := by first | exact Or.inl rfl | exact Or.inr rfl) (hf : X.fn x = true ∨ X.env.scope.names.lookup x = some .local := by first | exact .inl rfl | exact .inr rfl) (hf2 : X.fn y = true ∨ X.env.scope.names.lookup y = some .local := by first | exact .inl rfl | exact .inr rfl)
    (hc : X.calm = true := by rfl) (hK : X.K = g.K := by rfl) (hn : (assignEach [Expr.Name x p, Expr.Name y p2] X.env).length = 2 := by rfl) (hst : (assignEach [Expr.Name x p, Expr.Name y p2] X.env).findIdx? (·.1) = none := by rfl) (hs : (assignEach [Expr.Name x p, Expr.Name y p2] X.env).map (·.2) = assign (.Name x p) X.env :: (assignEach [Expr.Name y p2] X.env).map (·.2) := by rfl) (hs2 : (assignEach [Expr.Name y p2] X.env).map (·.2) = assign (.Name y p2) X.env :: (assignEach [] X.env).map (·.2) := by rfl) :
    MG (α := T2 α β) X g (.Tuple [.Name x p, .Name y p2] k pos) (gTup X.K 2 (gCons (gName i) (gCons (gName j) gNil))) (fun t S => (S.set i (some (.im (Py.r g t.x0)))).set j (some (.im (Py.r g t.x1)))) [i, j] :=
  ⟨pg_tup hc (pgs_cons (pg_name hN hi hx hf) (pgs_cons (pg_name hN hj hy hf2) pgs_nil hs2) hs) hn hst, fun B S t v σ I H Q h ⟨q, a, b, e, h0, h1, h2⟩ k => ⟨q, [a, b], e, by rw [hK]; exact seqT h.sub h0, rfl, a, [b], rfl, b, [], rfl, rfl, k _ (hold_put (hold_put h h1) h2) fun vs ht => (wipe_set (ht j (by simp))).trans (wipe_set (ht i (by simp)))⟩⟩
theorem mg_t3 (i j l : Nat) {x y z : Str} {k : Nat} (hN : X.N.Nodup) (hi : X.N[i]? = some x := by rfl) (hj : X.N[j]? = some y := by rfl) (hl : X.N[l]? = some z := by rfl) (hx : Loc X.env.scope x := by first | exact Or.inl rfl | exact Or.inr rfl) (hy : Loc X.env.scope y := by first | exact Or.inl rfl | exact Or.inr rfl) (hz : Loc X.env.scope z := by first | exact Or.inl rfl | exact Or.inr rfl) (hf : X.fn x = true ∨ X.env.scope.names.lookup x = some .local := by first | exact .inl rfl | exact .inr rfl) (hf2 : X.fn y = true ∨ X.env.scope.names.lookup y = some .local := by first | exact .inl rfl | exact .inr rfl) (hf3 : X.fn z = true ∨ X.env.scope.names.lookup z = some .local := by first | exact .inl rfl | exact .inr rfl)
    (hc : X.calm = true := by rfl) (hK : X.K = g.K := by rfl) (hn : (assignEach [Expr.Name x p, Expr.Name y p2, Expr.Name z p3] X.env).length = 3 := by rfl) (hst : (assignEach [Expr.Name x p, Expr.Name y p2, Expr.Name z p3] X.env).findIdx? (·.1) = none := by rfl) (hs : (assignEach [Expr.Name x p, Expr.Name y p2, Expr.Name z p3] X.env).map (·.2) = assign (.Name x p) X.env :: (assignEach [Expr.Name y p2, Expr.Name z p3] X.env).map (·.2) := by rfl) (hs2 : (assignEach [Expr.Name y p2, Expr.Name z p3] X.env).map (·.2) = assign (.Name y p2) X.env :: (assignEach [Expr.Name z p3] X.env).map (·.2) := by rfl) (hs3 : (assignEach [Expr.Name z p3] X.env).map (·.2) = assign (.Name z p3) X.env :: (assignEach [] X.env).map (·.2) := by rfl) :
    MG (α := T3 α β γ) X g (.Tuple [.Name x p, .Name y p2, .Name z p3] k pos) (gTup X.K 3 (gCons (gName i) (gCons (gName j) (gCons (gName l) gNil)))) (fun t S => ((S.set i (some (.im (Py.r g t.x0)))).set j (some (.im (Py.r g t.x1)))).set l (some (.im (Py.r g t.x2)))) [i, j, l] :=
  ⟨pg_tup hc (pgs_cons (pg_name hN hi hx hf) (pgs_cons (pg_name hN hj hy hf2) (pgs_cons (pg_name hN hl hz hf3) pgs_nil hs3) hs2) hs) hn hst, fun B S t v σ I H Q h ⟨q, a, b, c, e, h0, h1, h2, h3⟩ k => ⟨q, [a, b, c], e, by rw [hK]; exact seqT h.sub h0, rfl, a, [b, c], rfl, b, [c], rfl, c, [], rfl, rfl, k _ (hold_put (hold_put (hold_put h h1) h2) h3) fun vs ht => (wipe_set (ht l (by simp))).trans ((wipe_set (ht j (by simp))).trans (wipe_set (ht i (by simp))))⟩⟩
/-- target = e -/
theorem mb_asg {m : Option α} {put : α → SL → SL} {f : α → Option o} {gt : TG} {ts : List Nat} (he : ME X g B S e m (KI g)) (hG : MG X g tg gt put ts) (hb : ∀ a, MB X g B J (put a S) rest (f a) K) (hs : swapsWithSole [tg] e pos.line X.env = pure false := by rfl) (hw : swappedStores [tg] e X.env = pure none := by rfl) (h1 : (assignEach [tg] X.env).map (·.2) = [assign tg X.env] := by rfl) :
    MB X g B J S (.Assign [tg] e pos :: rest) (m >>= f) K := by
  refine ⟨fun r q => ?_⟩
  obtain ⟨a, q1, q2⟩ := bind_some q
  refine pss_imp (pss_cons (ps_asg (he.run a q1) hG.pg hs hw h1) ((hb a).run r q2)) fun D σ H ⟨I, ok, kk⟩ => ?_
  exact ⟨I, ok.h, fun v I' H' x hv => hG.oks (ok.ext x) hv fun σ' ok' => ⟨I', ok', kk⟩⟩
/-- name op= e, of ints -/
theorem mb_aug (i : Nat) {x : Str} {a : Int} {op : Operator} {fi : Int → Int → Int} {m : Option Int} {f : Int → Option o} (hp : PIp X op (ipI fi)) (hN : X.N.Nodup) (he : ME X g B S e m (KI g)) (hb : ∀ b, MB X g B J (S.set i (some (.im (Py.r g b)))) rest (f b) K) (hS : S[i]? = some (some (.im (Py.r g a))) := by rfl)
    (hi : X.N[i]? = some x := by rfl) (hx : Loc X.env.scope x := by first | exact Or.inl rfl | exact Or.inr rfl) (hf : X.fn x = true ∨ X.env.scope.names.lookup x = some .local := by first | exact .inl rfl | exact .inr rfl) : MB X g B J S (.AugAssign (.Name x pos') op e pos :: rest) (m >>= fun b => f (fi a b)) K := by
  refine ⟨fun r q => ?_⟩
  obtain ⟨b, q1, q2⟩ := bind_some q
  refine pss_imp (pss_cons (ps_aug hN hi hx (he.run b q1) hp hf) ((hb (fi a b)).run r q2)) fun D σ H ⟨I, ok, kk⟩ => ?_
  obtain ⟨v, e1, h1⟩ := ok.h.at_ i _ hS
  exact ⟨v, e1, I, ok.h, fun w I' H' x hw => ⟨a, b, h1, hw, I', ok.put (k := .im (Py.r g (fi a b))) x rfl rfl, kk⟩⟩

/-! lists written -/
theorem mb_app (i : Nat) {x : Str} {as : List α} {m : Option α} {f : List α → Option o} (he : ME X g B S e m (KI g)) (hb : ∀ bs, MB X g B J (S.set i (some (.fr (rl g bs)))) rest (f bs) K) (hS : S[i]? = some (some (.fr (rl g as))) := by rfl) (hN : X.N[i]? = some x := by rfl)
    (hv : Vis X.env.scope x := by first | exact Or.inl rfl | exact Or.inr (Or.inl rfl) | exact Or.inr (Or.inr rfl)) (hs : swapsWith (.Call (.Attribute (.Name x p) "append" apos) [e] [] cpos) none pos.line X.env = pure false := by rfl) (hst : starEach [e] X.env = (false, eval e X.env) :: starEach [] X.env := by rfl)
    (hbase : attributeBase (.Name x p) "append" X.env (eval (.Name x p) X.env) = eval (.Name x p) X.env := by rfl)
    (hfew : ((backTo cpos (starEach [e] X.env)).all (fun x => !x.1) && (backToKw cpos (keywordEach [] X.env)).all (fun x => x.1.isSome) && decide ([e].length + ([] : List Keyword).length + (if ([] : List Keyword).isEmpty then 0 else 1) < 30)) = true := by rfl)
    (hline : (apos.endLine == cpos.line) = true := by rfl) (hplain : (backTo cpos (starEach [] X.env)).any (·.1) = false := by rfl)
    (hd : (x == ("__debug__" : Str)) = false := by decide) (hcd : (x == ("__classdict__" : Str)) = false := by decide) :
    MB X g B J S (.Expr (.Call (.Attribute (.Name x p) "append" apos) [e] [] cpos) pos :: rest) (m >>= fun a => appO as a >>= f) K := by
  refine ⟨fun r q => ?_⟩
  obtain ⟨a, q1, q⟩ := bind_some q
  obtain ⟨bs, q2, q3⟩ := bind_some q
  unfold appO at q2
  by_cases hz : decide (as.length < sizeLine) = true
  · rw [if_pos hz] at q2
    cases q2
    have hz' := of_decide_eq_true hz
    refine pss_imp (pss_cons (ps_expr (pe_bm PySem.F.plainAttrs_list PySem.F.slot_list_append PySem.F.type_list_append mt_append (pe_var hN hv hd hcd) (pa_cons (he.run a q1) pa_nil hst) hbase hfew hline hst hplain) hs) ((hb _).run r q3)) fun D σ H ⟨I, ok, kk⟩ => ?_
    obtain ⟨v, e1, l, vs, rfl, h1, h2, h3, h4⟩ := ok.h.at_ i _ hS
    refine ⟨_, e1, .inl ⟨rfl, _, SqL.of h3⟩, I, ok.h, fun w I' H' x hw => ⟨l, vs, w, rfl, rfl, x.h _ _ h3, by rw [rl_len h4]; exact hz', I', (ok.ext x).write hS e1 ⟨?_, paired_app ((rl g as).mono x.i h4).2 (.cons hw .nil)⟩, kk⟩⟩
    rw [List.length_append, List.length_singleton]
    omega
  · rw [if_neg hz] at q2
    cases q2
theorem mb_seti (i : Nat) {x : Str} {as : List α} {m1 : Option Int} {m : Option α} {f : List α → Option o} (he : ME X g B S e m (KI g)) (h1 : ME X g B S e1 m1 (KI g)) (hb : ∀ bs, MB X g B J (S.set i (some (.fr (rl g bs)))) rest (f bs) K) (hS : S[i]? = some (some (.fr (rl g as))) := by rfl) (hN : X.N[i]? = some x := by rfl)
    (hv : Vis X.env.scope x := by first | exact Or.inl rfl | exact Or.inr (Or.inl rfl) | exact Or.inr (Or.inr rfl)) (hs : swapsWithSole [.Subscript (.Name x p) e1 apos] e pos.line X.env = pure false := by rfl) (hw : swappedStores [.Subscript (.Name x p) e1 apos] e X.env = pure none := by rfl)
    (h1' : (assignEach [Expr.Subscript (.Name x p) e1 apos] X.env).map (·.2) = [assign (.Subscript (.Name x p) e1 apos) X.env] := by rfl)
    (ha : ∀ v, assign (.Subscript (.Name x p) e1 apos) X.env v = (do
      let ov ← holding [v] (eval (.Name x p) X.env)
      let iv ← holding [v, ov] (eval e1 X.env)
      standAt apos
      holding [v, ov, iv] (setItem ov iv v)
      release [v, ov, iv] []) := by intro _; rfl)
    (hd : (x == ("__debug__" : Str)) = false := by decide) (hcd : (x == ("__classdict__" : Str)) = false := by decide) :
    MB X g B J S (.Assign [.Subscript (.Name x p) e1 apos] e pos :: rest) (m >>= fun a => m1 >>= fun n => setO as n a >>= f) K := by
  refine ⟨fun r q => ?_⟩
  obtain ⟨a, q1, q⟩ := bind_some q
  obtain ⟨n, q2, q⟩ := bind_some q
  obtain ⟨bs, q3, q4⟩ := bind_some q
  unfold setO at q3
  cases hj : ixN as.length n with
  | none => rw [hj] at q3; cases q3
  | some j =>
    rw [hj] at q3
    cases q3
    refine pss_imp (pss_cons (ps_asg (he.run a q1) (pg_sub (pe_var hN hv hd hcd) (h1.run n q2) set_list ha) hs hw h1') ((hb _).run r q4)) fun D σ H ⟨I, ok, kk⟩ => ?_
    obtain ⟨v, e1, l, vs, rfl, h1, h2, h3, h4⟩ := ok.h.at_ i _ hS
    refine ⟨I, ok.h, fun w I1 H1 x1 hw => ⟨_, e1, I1, ok.h.ext x1, fun y I2 H2 x2 hy => ⟨l, vs, n, j, rfl, hy, x2.h _ _ (x1.h _ _ h3), by rw [rl_len h4]; exact hj, I2, ((ok.ext x1).ext x2).write hS e1 ⟨?_, paired_set (F := fun a v => (Py.r g a).p I2 v) ((Py.r g a).mono x2.i hw) _ ((rl g as).mono (x1.i.trans x2.i) h4).2⟩, kk⟩⟩⟩
    rw [List.length_set]
    exact h4.1
end
end T
set_option Elab.async false
set_option linter.all false
set_option maxRecDepth 100000
namespace T
open PySem PySem.Spec PyProof.Rows L2

/-! comprehensions -/
def lcM {α β : Type} (f : α → Option β) : List α → Option (List β)
  | [] => some []
  | a :: as => f a >>= fun b => lcM f as >>= fun bs => some (b :: bs)
def lcF {α β : Type} (t : α → Option Bool) (f : α → Option β) : List α → Option (List β)
  | [] => some []
  | a :: as => t a >>= fun b => if b = true then (f a >>= fun y => lcF t f as >>= fun ys => some (y :: ys)) else lcF t f as
theorem lcF_all {α β : Type} (f : α → Option β) : ∀ as : List α, lcF (fun _ => some true) f as = lcM f as
  | [] => rfl
  | a :: as => by
    have e : lcF (fun _ => some true) f (a :: as) = (f a >>= fun y => lcF (fun _ => some true) f as >>= fun ys => some (y :: ys)) := rfl
    rw [e, lcF_all f as]
    rfl
/-- the tests of a comprehension -/
structure MTs (X : Cx) (g : Gb) (B : Bs) (S : SL) (ifs : List Expr) (m : Option Bool) : Prop where
  run : ∀ b, m = some b → PTs X ifs (rdT g B S b)
def wipeS (S : SL) : List Nat → SL
  | [] => S
  | v :: vs => (wipeS S vs).set v none
theorem wipeS_length (S : SL) : ∀ vs, (wipeS S vs).length = S.length
  | [] => rfl
  | v :: vs => by
    show ((wipeS S vs).set v none).length = _
    rw [List.length_set, wipeS_length S vs]
theorem wipeS_some {S : SL} {i : Nat} {k : RK} : ∀ {vs : List Nat}, (wipeS S vs)[i]? = some (some k) → S[i]? = some (some k) ∧ i ∉ vs
  | [], h => ⟨h, by simp⟩
  | v :: vs, h => by
    rcases set_some h with ⟨_, z, _⟩ | ⟨h1, h2⟩
    · cases z
    · obtain ⟨h3, h4⟩ := wipeS_some h2
      exact ⟨h3, fun z => (List.mem_cons.mp z).elim (fun q => h1 q.symm) h4⟩
theorem Hold.wipe {g : Gb} {B : Bs} {S : SL} {σ : L2.St} {I H : Hp} (h : Hold g B S σ I H) (vs : List Nat) : Hold g B (wipeS S vs) (wipe σ vs) I H := by
  have at' : ∀ {i : Nat} {x : V}, (L2.wipe σ vs)[i]? = some (some x) → σ[i]? = some (some x) := fun e => (wipe_some e).1
  refine ⟨by rw [wipe_length, wipeS_length, h.len], h.sub, h.base, fun i k e => ?_, fun i j l ⟨⟨q, e⟩, a⟩ ⟨⟨q', e'⟩, b⟩ => h.ne i j l ⟨⟨q, (wipeS_some e).1⟩, at' a⟩ ⟨⟨q', (wipeS_some e').1⟩, at' b⟩, fun i q e => h.nr i q (wipeS_some e).1⟩
  obtain ⟨e1, e2⟩ := wipeS_some e
  obtain ⟨v, e3, q⟩ := h.at_ i k e1
  exact ⟨v, by rw [wipe_out e2]; exact e3, q⟩
section
variable {X : Cx} {g : Gb} {B : Bs} {J : Hp} {S : SL} {e e1 e2 e3 tg elt iter : Expr} {es ifs : List Expr} {pos pos' p p2 p3 apos cpos : Pos} {o α' β' γ' ρ : Type} {K : KT o} {rest body : List Stmt} {α β γ δ : Type} [Py α] [Py β] [Py γ] [Py δ]
theorem mts_nil : MTs X g B S [] (some true) := ⟨fun b q => by
  cases q
  exact ⟨fun pins s σ H Q I ⟨I', hh, k⟩ => pts_nil.run pins s σ H Q I (k I' H (Ext.refl hh.sub))⟩⟩
theorem mts_one {m : Option Bool} (h : MT X g B S e m) : MTs X g B S [e] m := ⟨fun b q => pts_one (h.run b q)⟩
def rdTs {α : Type} [Py α] (g : Gb) (B : Bs) (Sp : α → SL) (t : α → Option Bool) : TT := fun σ H Q => ∃ a b I, t a = some b ∧ Hold g B (Sp a) σ I H ∧ ∀ I' H', Ext I H I' H' → Q b H'
def rdEs {α β : Type} [Py α] [Py β] (g : Gb) (B : Bs) (Sp : α → SL) (f : α → Option β) : TE := fun σ H Q => ∃ a b I, f a = some b ∧ Hold g B (Sp a) σ I H ∧ ∀ v I' H', Ext I H I' H' → (Py.r g b).p I' v → Q v H'
/-- the heart of a comprehension's reading -/
theorem lc_use {gt : TG} {put : α → SL → SL} {ts vs : List Nat} {t : α → Option Bool} {f : α → Option β} {as : List α} {bs : List β} {σ : L2.St} {H : Hp} {Q : VK} (hts : ∀ i ∈ ts, i ∈ vs)
    (hG : ∀ (B : Bs) (S : SL) (a : α) (v : V) σ I H Q, Hold g B S σ I H → (Py.r g a).p I v → (∀ σ', Hold g B (put a S) σ' I H → (∀ vs, (∀ t ∈ ts, t ∈ vs) → wipe σ' vs = wipe σ vs) → Q σ' H) → gt v σ H Q)
    (hbs : lcF t f as = some bs) (hq : ∃ I, Hold g B S σ I H ∧ ∀ v I' H', Ext I H I' H' → RK.holds g (.fr (rl g bs)) H v I' H' → Q v H') :
    tLc (rdI g B S as) gt (rdTs g B (fun a => put a (wipeS S vs)) t) (rdEs g B (fun a => put a (wipeS S vs)) f) vs σ H Q := by
  obtain ⟨I, hh, kk⟩ := hq
  refine ⟨I, hh, fun J1 I1 H1 x1 hW => ?_⟩
  intro D hD
  have hI1 : I1 D = none := x1.s.free hD
  refine ⟨fun i m H => m = as.length - i ∧ i ≤ as.length ∧ ∃ I2 ds ws rs, lcF t f (as.drop i) = some rs ∧ ds ++ rs = bs ∧ Ext I1 H1 I2 H ∧ I2 D = none ∧ H D = some (.lst ws) ∧ Paired (fun b v => (Py.r g b).p I2 v) ds ws ∧ ds.length ≤ i,
    ⟨as.length, by simp, Nat.zero_le _, I1, [], [], bs, hbs, rfl, ⟨Same.refl _, same_new hD, x1.s.trans (same_new hD), fun _ _ h => h⟩, hI1, upd_same, .nil, Nat.le_refl _⟩, ?_⟩
  rintro i m H2 ⟨rfl, hi, I2, ds, ws, rs, hrs, hds, x2, hI2, hH2, hp, hdl⟩
  have hh2 : Hold g B S σ I2 H2 := (hh.ext x1).ext x2
  by_cases hlt : i < as.length
  · have hit : as[i]? = some as[i] := List.getElem?_eq_getElem hlt
    refine .inr ⟨hW.go i _ I2 H2 hit x2.i x2.s hh2.base, fun H => i + 1 ≤ as.length ∧ ∃ I2 ds ws rs, lcF t f (as.drop (i + 1)) = some rs ∧ ds ++ rs = bs ∧ Ext I1 H1 I2 H ∧ I2 D = none ∧ H D = some (.lst ws) ∧ Paired (fun b v => (Py.r g b).p I2 v) ds ws ∧ ds.length ≤ i + 1, fun H' h => ⟨as.length - (i + 1), by omega, rfl, h.1, h.2⟩, fun x H3 hy => ?_⟩
    obtain ⟨I3, x3, hv⟩ := hW.yl i _ I2 H2 x H3 hit x2.i x2.s hh2.base hy
    have hI3 : I3 D = none := x3.n D (by rw [hH2]; simp) hI2
    rw [drop_at hit] at hrs
    obtain ⟨b, e1, e2⟩ := bind_some (show (t as[i] >>= fun b => if b = true then (f as[i] >>= fun y => lcF t f (as.drop (i + 1)) >>= fun ys => some (y :: ys)) else lcF t f (as.drop (i + 1))) = some rs from hrs)
    refine hG B (wipeS S vs) as[i] x (wipe σ vs) I3 H3 _ ((hh2.ext x3).wipe vs) hv fun σ4 h4 hw => ⟨(hw vs hts).trans wipe_wipe, as[i], b, I3, e1, h4, fun I5 H5 x5 => ?_⟩
    have hI5 : I5 D = none := x5.n D (by rw [x3.h _ _ hH2]; simp) hI3
    have hH5 : H5 D = some (.lst ws) := x5.h _ _ (x3.h _ _ hH2)
    cases b with
    | true =>
      rw [if_pos rfl] at e2
      refine iteT ?_
      obtain ⟨y, e3, e4⟩ := bind_some e2
      obtain ⟨ys, e5, e6⟩ := bind_some e4
      cases e6
      refine ⟨as[i], y, I5, e3, h4.ext x5, fun u I6 H6 x6 hu => ⟨ws, x6.h _ _ hH5, ?_, hlt, I6, ds ++ [y], ws ++ [u], ys, e5, by rw [List.append_assoc]; exact hds, ?_, x6.n D (by rw [hH5]; simp) hI5, upd_same, ?_, ?_⟩⟩
      · have := hW.len
        rw [← Paired.length hp]
        omega
      · have x16 := ((x2.trans x3).trans x5).trans x6
        refine ⟨x16.i, fun c ob ec => ?_, fun c ob ec => ?_, x16.n⟩
        · rw [upd_ne (ne_of_none ec hD)]
          exact x16.h _ _ ec
        · rw [upd_ne (ne_of_none ec (x6.n D (by rw [hH5]; simp) hI5))]
          exact x16.s _ _ ec
      · exact paired_app (L2.Paired.mapP hp fun c d q => (Py.r g c).mono ((x3.i.trans x5.i).trans x6.i) q) (.cons hu .nil)
      · rw [List.length_append, List.length_singleton]
        omega
    | false =>
      rw [if_neg Bool.false_ne_true] at e2
      refine iteF ?_
      exact ⟨hlt, I5, ds, ws, rs, e2, hds, (x2.trans x3).trans x5, hI5, hH5, L2.Paired.mapP hp fun c d q => (Py.r g c).mono (x3.i.trans x5.i) q, by omega⟩
  · have e : i = as.length := by omega
    subst e
    rw [List.drop_of_length_le (Nat.le_refl _)] at hrs
    cases hrs
    rw [List.append_nil] at hds
    subst hds
    refine .inl ⟨hW.st I2 H2 x2.i x2.s hh2.base, kk _ I2 H2 (x1.trans x2) ⟨D, ws, rfl, x1.h.free hD, hI2, hH2, ?_, hp⟩⟩
    have := hW.len
    omega
/-- [elt for tg in iter if ..] -/
theorem me_lcF {scope : Scope} {own : List (Str × Nat)} {m : Option (List α)} {gt : TG} {put : α → SL → SL} {ts : List Nat} {t : α → Option Bool} {f : α → Option β} (hN : X.N.Nodup) (hi : MI X g B S tg iter m) (hb : blkC X.N X.env.scope scope own = true) (hts : ∀ i ∈ ts, i ∈ own.map (·.2))
    (hG : ∀ (s : Shared) (H : Hp) (C : Addr) (cl : List (Str × Addr)) (fp : List Addr), MG (X.blk s H scope (compEnvC scope cl C X.env) fp) g tg gt put ts)
    (ht : ∀ (s : Shared) (H : Hp) (C : Addr) (cl : List (Str × Addr)) (fp : List Addr) (a : α), MTs (X.blk s H scope (compEnvC scope cl C X.env) fp) g B (put a (wipeS S (own.map (·.2)))) ifs (t a))
    (he : ∀ (s : Shared) (H : Hp) (C : Addr) (cl : List (Str × Addr)) (fp : List Addr) (a : α), ME (X.blk s H scope (compEnvC scope cl C X.env) fp) g B (put a (wipeS S (own.map (·.2)))) elt (f a) (KI g)) (hc : X.calm = true := by rfl) (hs : ∀ x, foldedSetIterable iter X.env x = pure x := by intro _; rfl) :
    ME X g B S (.ListComp elt [⟨tg, iter, ifs, 0⟩] scope pos) (m >>= fun as => lcF t f as) (fun bs => .fr (rl g bs)) := by
  refine ⟨fun bs q => ?_⟩
  obtain ⟨as, q1, q2⟩ := bind_some q
  refine pe_imp (pe_lc (g := gt) (tt := rdTs g B (fun a => put a (wipeS S (own.map (·.2)))) t) (te := rdEs g B (fun a => put a (wipeS S (own.map (·.2)))) f) hc hN (hi.run as q1) (blkOk_by hb) (fun s H C cl fp => (hG s H C cl fp).pg)
    (fun s H C cl fp => ⟨fun pins st σ H Q I ⟨a, b, I2, e1, h, k⟩ => ((ht _ _ C cl fp a).run b e1).run pins st σ H Q I ⟨I2, h, k⟩⟩)
    (fun s H C cl fp => ⟨fun pins st σ H Q I ⟨a, b, I2, e1, h, k⟩ => ((he _ _ C cl fp a).run b e1).run pins st σ H Q I ⟨I2, h, k⟩⟩) hs) fun σ H Q hq => ?_
  exact lc_use hts (hG X.s_0 X.H_0 0 [] []).ok q2 hq
theorem me_lc {scope : Scope} {own : List (Str × Nat)} {m : Option (List α)} {gt : TG} {put : α → SL → SL} {ts : List Nat} {f : α → Option β} (hN : X.N.Nodup) (hi : MI X g B S tg iter m) (hb : blkC X.N X.env.scope scope own = true) (hts : ∀ i ∈ ts, i ∈ own.map (·.2))
    (hG : ∀ (s : Shared) (H : Hp) (C : Addr) (cl : List (Str × Addr)) (fp : List Addr), MG (X.blk s H scope (compEnvC scope cl C X.env) fp) g tg gt put ts)
    (he : ∀ (s : Shared) (H : Hp) (C : Addr) (cl : List (Str × Addr)) (fp : List Addr) (a : α), ME (X.blk s H scope (compEnvC scope cl C X.env) fp) g B (put a (wipeS S (own.map (·.2)))) elt (f a) (KI g)) (hc : X.calm = true := by rfl) (hs : ∀ x, foldedSetIterable iter X.env x = pure x := by intro _; rfl) :
    ME X g B S (.ListComp elt [⟨tg, iter, [], 0⟩] scope pos) (m >>= fun as => lcM f as) (fun bs => .fr (rl g bs)) :=
  (me_lcF (t := fun _ => some true) hN hi hb hts hG (fun _ _ _ _ _ _ => mts_nil) he hc hs).eq (by cases m with
    | none => rfl
    | some as => exact lcF_all f as)
/-- name = [..] on one line -/
theorem mb_setLcF (i : Nat) {x : Str} {scope : Scope} {own : List (Str × Nat)} {m : Option (List α)} {gt : TG} {put : α → SL → SL} {ts : List Nat} {t : α → Option Bool} {f : α → Option β} {fr : List β → Option o} (hN : X.N.Nodup) (hx : X.env.scope.names.lookup x = some .local) (hsw : swapsWith (.ListComp elt [⟨tg, iter, ifs, 0⟩] scope pos) (some (.Name x p)) pos'.line X.env = pure true) (hi : MI X g B S tg iter m) (hb : blkC X.N X.env.scope scope own = true) (hts : ∀ i ∈ ts, i ∈ own.map (·.2))
    (hG : ∀ (s : Shared) (H : Hp) (C : Addr) (cl : List (Str × Addr)) (fp : List Addr), MG (X.blk s H scope (compEnvC scope cl C X.env) fp) g tg gt put ts)
    (ht : ∀ (s : Shared) (H : Hp) (C : Addr) (cl : List (Str × Addr)) (fp : List Addr) (a : α), MTs (X.blk s H scope (compEnvC scope cl C X.env) fp) g B (put a (wipeS S (own.map (·.2)))) ifs (t a))
    (he : ∀ (s : Shared) (H : Hp) (C : Addr) (cl : List (Str × Addr)) (fp : List Addr) (a : α), ME (X.blk s H scope (compEnvC scope cl C X.env) fp) g B (put a (wipeS S (own.map (·.2)))) elt (f a) (KI g))
    (hr : ∀ bs, MB X g B J (S.set i (some (.fr (rl g bs)))) rest (fr bs) K) (hy : X.N[i]? = some x := by rfl) (hc : X.calm = true := by rfl) (hs : ∀ x, foldedSetIterable iter X.env x = pure x := by intro _; rfl) :
    MB X g B J S (.Assign [.Name x p] (.ListComp elt [⟨tg, iter, ifs, 0⟩] scope pos) pos' :: rest) (m >>= fun as => lcF t f as >>= fr) K := by
  refine ⟨fun r q => ?_⟩
  obtain ⟨as, q1, q⟩ := bind_some q
  obtain ⟨bs, q2, q3⟩ := bind_some q
  refine pss_imp (pss_cons (ps_setLc (i := i) (g := gt) (tt := rdTs g B (fun a => put a (wipeS S (own.map (·.2)))) t) (te := rdEs g B (fun a => put a (wipeS S (own.map (·.2)))) f) hc hN hy hx hsw (hi.run as q1) (blkOk_by hb) (fun s H C cl fp => (hG s H C cl fp).pg)
    (fun s H C cl fp => ⟨fun pins st σ H Q I ⟨a, b, I2, e1, h, k⟩ => ((ht _ _ C cl fp a).run b e1).run pins st σ H Q I ⟨I2, h, k⟩⟩)
    (fun s H C cl fp => ⟨fun pins st σ H Q I ⟨a, b, I2, e1, h, k⟩ => ((he _ _ C cl fp a).run b e1).run pins st σ H Q I ⟨I2, h, k⟩⟩) hs) ((hr bs).run r q3)) fun D σ H ⟨I, ok, kk⟩ => ?_
  exact lc_use (Q := fun x H1 => gName i x σ H1 (fun σ H => ∃ I, Ok g B J (List.set S i (some (RK.fr (rl g bs)))) σ I H ∧ K r D)) hts (hG X.s_0 X.H_0 0 [] []).ok q2 ⟨I, ok.h, fun v I' H' x hv => ⟨I', ok.put x rfl hv, kk⟩⟩
theorem mb_setLc (i : Nat) {x : Str} {scope : Scope} {own : List (Str × Nat)} {m : Option (List α)} {gt : TG} {put : α → SL → SL} {ts : List Nat} {f : α → Option β} {fr : List β → Option o} (hN : X.N.Nodup) (hx : X.env.scope.names.lookup x = some .local) (hsw : swapsWith (.ListComp elt [⟨tg, iter, [], 0⟩] scope pos) (some (.Name x p)) pos'.line X.env = pure true) (hi : MI X g B S tg iter m) (hb : blkC X.N X.env.scope scope own = true) (hts : ∀ i ∈ ts, i ∈ own.map (·.2))
    (hG : ∀ (s : Shared) (H : Hp) (C : Addr) (cl : List (Str × Addr)) (fp : List Addr), MG (X.blk s H scope (compEnvC scope cl C X.env) fp) g tg gt put ts)
    (he : ∀ (s : Shared) (H : Hp) (C : Addr) (cl : List (Str × Addr)) (fp : List Addr) (a : α), ME (X.blk s H scope (compEnvC scope cl C X.env) fp) g B (put a (wipeS S (own.map (·.2)))) elt (f a) (KI g))
    (hr : ∀ bs, MB X g B J (S.set i (some (.fr (rl g bs)))) rest (fr bs) K) (hy : X.N[i]? = some x := by rfl) (hc : X.calm = true := by rfl) (hs : ∀ x, foldedSetIterable iter X.env x = pure x := by intro _; rfl) :
    MB X g B J S (.Assign [.Name x p] (.ListComp elt [⟨tg, iter, [], 0⟩] scope pos) pos' :: rest) (m >>= fun as => lcM f as >>= fr) K :=
  (mb_setLcF (t := fun _ => some true) i hN hx hsw hi hb hts hG (fun _ _ _ _ _ _ => mts_nil) he hr hy hc hs).eq (by cases m with
    | none => rfl
    | some as => exact congrArg (fun z => z >>= fr) (lcF_all f as))
end
end T
set_option Elab.async false
set_option linter.all false
set_option maxRecDepth 100000
namespace T
open PySem PySem.Spec PyProof.Rows L2

/-- behind a loop that may leave, within a turn of another -/
def Ctl.up {β β2 γ ρ : Type} (f : β → Option (Ctl β2 γ ρ)) : Ctl β Empty ρ → Option (Ctl β2 γ ρ)
  | .nx b => f b
  | .rt r => some (.rt r)
  | .ct c => c.elim
  | .bk c => c.elim
theorem loopN_pure {α γ : Type} (f : γ → α → γ) : ∀ (as : List α) (s : γ), loopN (fun s a => some (f s a)) as s = some (as.foldl f s)
  | [], s => rfl
  | a :: as, s => loopN_pure f as (f s a)
theorem lcM_pure {α β : Type} (f : α → β) : ∀ as : List α, lcM (fun a => some (f a)) as = some (as.map f)
  | [] => rfl
  | a :: as => by
    show (lcM (fun a => some (f a)) as >>= fun bs => some (f a :: bs)) = _
    rw [lcM_pure f as]; rfl
theorem lcF_pure {α β : Type} (t : α → Bool) (f : α → β) : ∀ as : List α, lcF (fun a => some (t a)) (fun a => some (f a)) as = some ((as.filter t).map f)
  | [] => rfl
  | a :: as => by
    show (if t a = true then (lcF (fun a => some (t a)) (fun a => some (f a)) as >>= fun ys => some (f a :: ys)) else lcF (fun a => some (t a)) (fun a => some (f a)) as) = _
    rw [lcF_pure t f as, List.filter_cons]
    cases h : t a with
    | true => rw [if_pos rfl, if_pos rfl]; rfl
    | false => rw [if_neg Bool.false_ne_true, if_neg Bool.false_ne_true]
/-- lo, lo + c, .. -/
def rng3 (lo c : Int) (n : Nat) : List Int := (List.range n).map fun (i : Nat) => lo + (i : Int) * c
def rng3Ok (i j c : Int) : Bool := decide (0 < c ∧ c < 1073741824) && Builtin.Range.small i j c && decide ((Builtin.Range.rangeSize i j c).toNat ≤ sizeLine)
@[irreducible] def rng3O (i j c : Int) : Option (List Int) := if rng3Ok i j c = true then some (rng3 i c (Builtin.Range.rangeSize i j c).toNat) else none
theorem rng3_get {lo c : Int} {n i : Nat} (h : i < n) : (rng3 lo c n)[i]? = some (lo + (i : Int) * c) := by
  unfold rng3
  rw [List.getElem?_map, List.getElem?_range h]
  rfl
theorem rng3_len {lo c : Int} {n : Nat} : (rng3 lo c n).length = n := by
  unfold rng3
  rw [List.length_map, List.length_range]
theorem walk_rng3 {g : Gb} {B : Bs} {lo c : Int} {n : Nat} {I1 : Hp} (hn : n ≤ sizeLine) : WalkI g B (Itc lo c n) (rng3 lo c n) I1 where
  go := fun i x I2 H2 e _ _ _ => by
    have := (List.getElem?_eq_some_iff.mp e).1
    rw [rng3_len] at this
    exact this
  yl := fun i x I2 H2 v H' e s1 s2 s3 y => by
    have hi := (List.getElem?_eq_some_iff.mp e).1
    rw [rng3_len] at hi
    rw [rng3_get hi] at e
    cases e
    obtain ⟨rfl, rfl⟩ := y
    exact ⟨I2, Ext.refl s2, rfl⟩
  st := fun I2 H2 _ _ _ => by
    rw [rng3_len]
    exact Nat.le_refl _
  len := by
    rw [rng3_len]
    exact hn
/-! isinstance: known by the kind of thing -/
/-- things of one built-in type -/
class IsT (α : Type) [Py α] where
  ty : String
  ok : ∀ {g : Gb} {a : α} {I : Hp} {v : V}, (Py.r g a).p I v → TyX g.K I v (.type ty)
theorem tyx_sq {K : PySem.W.Frag} {H : Hp} {l : Addr} {vs : List V} (h : SqL K H l vs) : TyX K H (.ref l) (.type "list") := by
  rcases h with (h | ⟨o, h⟩) | ⟨o, its, n, h1, h2, _⟩
  · exact .base (.lst h)
  · exact .base (.frz h)
  · exact .kList h1 h2
theorem tyx_tq {K : PySem.W.Frag} {H : Hp} {l : Addr} {vs : List V} (h : SqT K H l vs) : TyX K H (.ref l) (.type "tuple") := by
  rcases h with (h | ⟨o, h⟩) | ⟨o, its, n, h1, h2, _⟩
  · exact .base (.tup h)
  · exact .fTuple h
  · exact .kTuple h1 h2
instance : IsT Int := ⟨"int", fun h => by cases h; exact .base (.int _)⟩
instance : IsT Bool := ⟨"bool", fun h => by cases h; exact .base (.bl _)⟩
instance : IsT Str := ⟨"str", fun h => by cases h; exact .base (.str _)⟩
section
variable {α β γ δ : Type} [Py α] [Py β] [Py γ] [Py δ]
instance : IsT (T2 α β) := ⟨"tuple", fun h => by obtain ⟨_, _, _, rfl, h, _⟩ := h; exact tyx_tq h⟩
instance : IsT (T3 α β γ) := ⟨"tuple", fun h => by obtain ⟨_, _, _, _, rfl, h, _⟩ := h; exact tyx_tq h⟩
instance : IsT (T4 α β γ δ) := ⟨"tuple", fun h => by obtain ⟨_, _, _, _, _, rfl, h, _⟩ := h; exact tyx_tq h⟩
theorem tyx_mono {K : PySem.W.Frag} {H H' : Hp} {v : V} {t : Value} (s : Same H H') (h : TyX K H v t) : TyX K H' v t := by
  cases h with
  | base h =>
    cases h with
    | non => exact .base .non
    | bl x => exact .base (.bl x)
    | int x => exact .base (.int x)
    | str x => exact .base (.str x)
    | flt x => exact .base (.flt x)
    | lst e => exact .base (.lst (s _ _ e))
    | frz e => exact .base (.frz (s _ _ e))
    | tup e => exact .base (.tup (s _ _ e))
    | dK e => exact .base (.dK (s _ _ e))
    | dT e => exact .base (.dT (s _ _ e))
    | ins e cl ha hn htk hm => exact .base (.ins (s _ _ e) cl ha hn htk hm)
  | byt b => exact .byt b
  | set e => exact .set (s _ _ e)
  | kList e c => exact .kList e c
  | kTuple e c => exact .kTuple e c
  | kDict e c => exact .kDict e c
  | fTuple e => exact .fTuple (s _ _ e)
  | fDict e => exact .fDict (s _ _ e)
end
/-- a thing of kind k is of the type t -/
def TR {α' : Type} (g : Gb) (k : α' → RK) (t : Value) : Prop := ∀ a H0 v I H, Same I H → RK.holds g (k a) H0 v I H → TyX g.K H v t
section
variable {X : Cx} {g : Gb} {B : Bs} {J : Hp} {S : SL} {e e1 e2 e3 tg : Expr} {es : List Expr} {pos pos' p p2 : Pos} {o α' β' γ' ρ : Type} {K : KT o} {rest body : List Stmt} {α β : Type} [Py α] [Py β] {m : Option (List α)} {k : List α → RK}
theorem tr_im [i : IsT α] : TR (α' := α) g (KI g) (.type i.ty) := fun a H0 v I H s h => tyx_mono s (IsT.ok h)
theorem tr_lr {k : List α → RK} (h : LR g k) : TR g k (.type "list") := fun a H0 v I H s q => by
  obtain ⟨l, vs, rfl, h1, _⟩ := h a H0 v I H s q
  exact tyx_sq h1
theorem me_isi {m1 : Option α'} {k1 : α' → RK} {x : Str} {t Ty : String} {b : Bool} (hm : X.mg "isinstance" = none) (hm2 : X.mg x = none) (h : ME X g B S e m1 k1) (hT : TR g k1 (.type t)) (hk : kitB t Ty = some b) (hv : bootBuiltins x = some (.type Ty)) (hg : Gl X "isinstance" := by rfl) (hg2 : Gl X x := by rfl) (hK : X.K = g.K := by rfl) (hn : x ≠ "__name__" := by decide) (hd : (x == ("__debug__" : Str)) = false := by decide)
    (he : starEach [e, .Name x p2] X.env = (false, eval e X.env) :: starEach [.Name x p2] X.env := by rfl) (he2 : starEach [.Name x p2] X.env = (false, eval (.Name x p2) X.env) :: starEach [] X.env := by rfl) (hpl : (backTo pos (starEach [.Name x p2] X.env)).any (·.1) = false := by rfl) :
    ME X g B S (.Call (.Name "isinstance" p) [e, .Name x p2] [] pos) (m1 >>= fun _ => some b) (KI g) := by
  refine ⟨fun n q => ?_⟩
  obtain ⟨a, q1, q2⟩ := bind_some q
  cases q2
  refine pe_imp (pe_callB call_isi hg hm (by decide +kernel) (pa_cons (h.run a q1) (pa_cons (pe_bltn (v := .ty Ty) hg2 hm2 hv rfl hn hd) pa_nil he2) he) (he := he) (hpl := hpl)) fun σ H Q ⟨I, hh, kk⟩ => ⟨I, hh, fun v I' H' xx hv => ?_⟩
  exact ⟨v, .ty Ty, .type t, .type Ty, b, rfl, .ty Ty, by rw [hK]; exact hT a _ _ _ _ xx.s hv, by rw [hK]; exact kit_ty hk, kk _ I' H' xx rfl⟩
theorem mi_rng3 {m1 m2 m3 : Option Int} (hm : X.mg "range" = none) (h1 : ME X g B S e1 m1 (KI g)) (h2 : ME X g B S e2 m2 (KI g)) (h3 : ME X g B S e3 m3 (KI g)) (hg : Gl X "range" := by rfl) (hs : starEach [e1, e2, e3] X.env = (false, eval e1 X.env) :: starEach [e2, e3] X.env := by rfl) (hs2 : starEach [e2, e3] X.env = (false, eval e2 X.env) :: starEach [e3] X.env := by rfl) (hs3 : starEach [e3] X.env = (false, eval e3 X.env) :: starEach [] X.env := by rfl) (hpl : (backTo pos (starEach [e2, e3] X.env)).any (·.1) = false := by rfl) :
    MI X g B S tg (.Call (.Name "range" p) [e1, e2, e3] [] pos) (m1 >>= fun a => m2 >>= fun b => m3 >>= fun c => rng3O a b c) := by
  refine ⟨fun as q => ?_⟩
  obtain ⟨a, q1, q⟩ := bind_some q
  obtain ⟨b, q2, q⟩ := bind_some q
  obtain ⟨c, q3, q⟩ := bind_some q
  unfold rng3O at q
  by_cases hn : rng3Ok a b c = true
  · rw [if_pos hn] at q
    cases q
    unfold rng3Ok at hn
    rw [Bool.and_eq_true, Bool.and_eq_true, decide_eq_true_eq, decide_eq_true_eq] at hn
    obtain ⟨⟨hc, hs'⟩, hz⟩ := hn
    refine pi_imp (pi_range3 hg hm (pa_cons (h1.run a q1) (pa_cons (h2.run b q2) (pa_cons (h3.run c q3) pa_nil hs3) hs2) hs) hs hpl) fun σ H R ⟨I, hh, k⟩ => ⟨I, hh, fun v I1 H1 x1 hv => ⟨I1, hh.ext x1, fun w I2 H2 x2 hw => ⟨I2, (hh.ext x1).ext x2, fun u I3 H3 x3 hu => ⟨a, b, c, (Builtin.Range.rangeSize a b c).toNat, by cases hv; cases hw; cases hu; rfl, ⟨by omega, by omega, hs', ?_⟩, k _ I3 H3 ((x1.trans x2).trans x3) (walk_rng3 hz)⟩⟩⟩⟩
    have : 0 ≤ Builtin.Range.rangeSize a b c := by
      unfold Builtin.Range.rangeSize
      split
      · split
        · have := Int.ediv_nonneg (a := b - a - 1) (b := c) (by omega) (by omega)
          omega
        · omega
      · first | omega | (split <;> omega)
    omega
  · rw [if_neg hn] at q
    cases q
/-- is, is not a written truth -/
theorem mc_isB {j : Nat} {c : Bool} {m1 : Option Bool} (h : ME X g B S e m1 (KI g)) : MC X g B S (.Compare e [.Is] [.Constant (.bool c) j pos'] pos) (m1 >>= fun a => some (a == c)) :=
  (mc_cmp (m2 := some c) op_isBl h (me_bl (b := c)) (f := fun a b => some (a == b)) (fun a b c q v w I H H0 H1 Q s hv hw kk => by
    cases q
    cases hv
    cases hw
    refine ⟨a, b, rfl, rfl, ?_⟩
    have e : decide (a = b) = (a == b) := by cases a <;> cases b <;> rfl
    rw [e]
    exact kk _ _ _ (Ext.refl s) rfl)).eq (by cases m1 <;> rfl)
theorem mc_ntB {j : Nat} {c : Bool} {m1 : Option Bool} (h : ME X g B S e m1 (KI g)) : MC X g B S (.Compare e [.IsNot] [.Constant (.bool c) j pos'] pos) (m1 >>= fun a => some (!(a == c))) :=
  (mc_cmp (m2 := some c) op_notBl h (me_bl (b := c)) (f := fun a b => some (!(a == b))) (fun a b c q v w I H H0 H1 Q s hv hw kk => by
    cases q
    cases hv
    cases hw
    refine ⟨a, b, rfl, rfl, ?_⟩
    have e : decide (a = b) = (a == b) := by cases a <;> cases b <;> rfl
    rw [e]
    exact kk _ _ _ (Ext.refl s) rfl)).eq (by cases m1 <;> rfl)
theorem me_any {m : Option (List Bool)} {k : List Bool → RK} (hm : X.mg "any" = none) (h : ME X g B S e m k) (r : LR g k := by first | exact lr_im | exact lr_fr | exact lr_rd) (hg : Gl X "any" := by rfl) (hK : X.K = g.K := by rfl) (hc : X.calm = true := by rfl) (he : starEach [e] X.env = (false, eval e X.env) :: starEach [] X.env := by rfl) (hpl : (backTo pos (starEach [] X.env)).any (·.1) = false := by rfl) :
    ME X g B S (.Call (.Name "any" p) [e] [] pos) (m >>= fun xs => some (xs.any id)) (KI g) := by
  refine ⟨fun n q => ?_⟩
  obtain ⟨xs, q1, q2⟩ := bind_some q
  cases q2
  refine pe_imp (pe_callB (cr_any hc) hg hm (by decide +kernel) (pa_cons (h.run xs q1) pa_nil he) (he := he) (hpl := hpl)) fun σ H Q ⟨I, hh, kk⟩ => ⟨I, hh, fun v I' H' x hv => ?_⟩
  obtain ⟨l, vs, rfl, h1, h2⟩ := r xs _ _ _ _ x.s hv
  have e1 := vals_bls h2.2
  subst e1
  exact ⟨l, xs, rfl, by rw [hK]; exact h1, kk _ I' H' x rfl⟩
theorem me_all {m : Option (List Bool)} {k : List Bool → RK} (hm : X.mg "all" = none) (h : ME X g B S e m k) (r : LR g k := by first | exact lr_im | exact lr_fr | exact lr_rd) (hg : Gl X "all" := by rfl) (hK : X.K = g.K := by rfl) (hc : X.calm = true := by rfl) (he : starEach [e] X.env = (false, eval e X.env) :: starEach [] X.env := by rfl) (hpl : (backTo pos (starEach [] X.env)).any (·.1) = false := by rfl) :
    ME X g B S (.Call (.Name "all" p) [e] [] pos) (m >>= fun xs => some (xs.all id)) (KI g) := by
  refine ⟨fun n q => ?_⟩
  obtain ⟨xs, q1, q2⟩ := bind_some q
  cases q2
  refine pe_imp (pe_callB (cr_all hc) hg hm (by decide +kernel) (pa_cons (h.run xs q1) pa_nil he) (he := he) (hpl := hpl)) fun σ H Q ⟨I, hh, kk⟩ => ⟨I, hh, fun v I' H' x hv => ?_⟩
  obtain ⟨l, vs, rfl, h1, h2⟩ := r xs _ _ _ _ x.s hv
  have e1 := vals_bls h2.2
  subst e1
  exact ⟨l, xs, rfl, by rw [hK]; exact h1, kk _ I' H' x rfl⟩
end
end T
set_option Elab.async false
set_option linter.all false
set_option maxRecDepth 100000
namespace T
open PySem PySem.Spec PyProof.Rows L2
/-! the same rules where nothing can fail -/
section
variable {X : Cx} {g : Gb} {B : Bs} {J : Hp} {S : SL} {e e1 e2 e3 tg elt iter : Expr} {es ifs : List Expr} {pos pos' p p2 p3 apos cpos : Pos} {o α' β' γ' ρ : Type} {K : KT o} {rest body : List Stmt} {α β γ δ : Type} [Py α] [Py β] [Py γ] [Py δ]
theorem me_ifP {a' : Type} {c : Bool} {a b : a'} {k : a' → RK} (hc : MT X g B S e (some c)) (h1 : ME X g B S e1 (some a) k) (h2 : ME X g B S e2 (some b) k) (hb : ∀ c q, k c ≠ .bw q := by intro _ _ z; cases z) : ME X g B S (.IfExp e e1 e2 pos) (some (if c = true then a else b)) k :=
  (me_if hc h1 h2 hb).eq (by cases c <;> rfl)
theorem mc_chnP {op op' : CmpOp} {f f' : Int → Int → Bool} {a b c : Int} (ho : OpR X (compareOp op) (rI0 fun i j => .bl (f i j))) (ho' : OpR X (compareOp op') (rI0 fun i j => .bl (f' i j)))
    (h1 : ME X g B S e1 (some a) (KI g)) (h2 : ME X g B S e2 (some b) (KI g)) (h3 : ME X g B S e3 (some c) (KI g)) (hm : lastMarks [op, op'] [e2, e3] = false := by with_unfolding_all rfl) :
    MC X g B S (.Compare e1 [op, op'] [e2, e3] pos) (some (f a b && f' b c)) :=
  (mc_chn ho ho' h1 h2 h3 hm).eq (by
    show (if f a b = true then some (f' b c) else some false) = _
    cases f a b <;> rfl)
theorem mb_if2P {c : Bool} {a b : o} {b1 b2 : List Stmt} (hc : MT X g B S e (some c)) (h1 : MB X g B J S b1 (some a) K) (h2 : MB X g B J S b2 (some b) K) : MB X g B J S [.If e b1 b2 pos] (some (if c = true then a else b)) K :=
  (mb_if2 hc h1 h2).eq (by cases c <;> rfl)
theorem mb_iftP {c : Bool} {a b : o} {b1 : List Stmt} (hc : MT X g B S e (some c)) (h1 : MB X g B J S b1 (some a) K) (h2 : MB X g B J S rest (some b) K) (hK : ∀ r D nx, some a = some r → K r D → K r { D with nx := nx }) : MB X g B J S (.If e b1 [] pos :: rest) (some (if c = true then a else b)) K :=
  (mb_ift hc h1 h2 hK).eq (by cases c <;> rfl)
theorem mb_ifP {c : Bool} {a1 a2 : β'} {b1 b2 : List Stmt} {S' : β' → SL} {f : β' → Option o} (hc : MT X g B S e (some c)) (h1 : MB X g B J S b1 (some a1) (Kn g B J S')) (h2 : MB X g B J S b2 (some a2) (Kn g B J S')) (hb : ∀ b, MB X g B J (S' b) rest (f b) K) :
    MB X g B J S (.If e b1 b2 pos :: rest) (f (if c = true then a1 else a2)) K :=
  (mb_if hc h1 h2 hb).eq (by cases c <;> rfl)
theorem mb_forP {m : Option (List α)} {put : α → SL → SL} {S' : β' → SL} {s0 : β'} {fb : β' → α → β'} {f : β' → Option o} (hp : PassesOwn (model X.prog X.w) X.A X.env X.xe) (hi : MI X g B S tg e m) {gt : TG} {ts : List Nat} (hG : MG X g tg gt put ts) (w : Wk S (S' s0))
    (hb : ∀ J s a, MB X g B J (put a (S' s)) body (some (fb s a)) (Kn g B J S')) (hr : ∀ s, MB X g B J (S' s) rest (f s) K) (hc : X.calm = true := by rfl) (hs : ∀ x, foldedSetIterable e X.env x = pure x := by intro _; rfl) :
    MB X g B J S (.For tg e body [] pos :: rest) (m >>= fun as => f (as.foldl fb s0)) K :=
  (mb_for hp hi hG w hb hr hc hs).eq (by
    cases m with
    | none => rfl
    | some as =>
      show (loopN (fun s a => some (fb s a)) as s0 >>= f) = f (as.foldl fb s0)
      rw [loopN_pure]; rfl)
theorem me_lcFP {scope : Scope} {own : List (Str × Nat)} {m : Option (List α)} {gt : TG} {put : α → SL → SL} {ts : List Nat} {t : α → Bool} {f : α → β} (hN : X.N.Nodup) (hi : MI X g B S tg iter m) (hb : blkC X.N X.env.scope scope own = true) (hts : ∀ i ∈ ts, i ∈ own.map (·.2))
    (hG : ∀ (s : Shared) (H : Hp) (C : Addr) (cl : List (Str × Addr)) (fp : List Addr), MG (X.blk s H scope (compEnvC scope cl C X.env) fp) g tg gt put ts)
    (ht : ∀ (s : Shared) (H : Hp) (C : Addr) (cl : List (Str × Addr)) (fp : List Addr) (a : α), MTs (X.blk s H scope (compEnvC scope cl C X.env) fp) g B (put a (wipeS S (own.map (·.2)))) ifs (some (t a)))
    (he : ∀ (s : Shared) (H : Hp) (C : Addr) (cl : List (Str × Addr)) (fp : List Addr) (a : α), ME (X.blk s H scope (compEnvC scope cl C X.env) fp) g B (put a (wipeS S (own.map (·.2)))) elt (some (f a)) (KI g)) (hc : X.calm = true := by rfl) (hs : ∀ x, foldedSetIterable iter X.env x = pure x := by intro _; rfl) :
    ME X g B S (.ListComp elt [⟨tg, iter, ifs, 0⟩] scope pos) (m >>= fun as => some ((as.filter t).map f)) (fun bs => .fr (rl g bs)) :=
  (me_lcF hN hi hb hts hG ht he hc hs).eq (by cases m with
    | none => rfl
    | some as => exact lcF_pure t f as)
theorem me_lcP {scope : Scope} {own : List (Str × Nat)} {m : Option (List α)} {gt : TG} {put : α → SL → SL} {ts : List Nat} {f : α → β} (hN : X.N.Nodup) (hi : MI X g B S tg iter m) (hb : blkC X.N X.env.scope scope own = true) (hts : ∀ i ∈ ts, i ∈ own.map (·.2))
    (hG : ∀ (s : Shared) (H : Hp) (C : Addr) (cl : List (Str × Addr)) (fp : List Addr), MG (X.blk s H scope (compEnvC scope cl C X.env) fp) g tg gt put ts)
    (he : ∀ (s : Shared) (H : Hp) (C : Addr) (cl : List (Str × Addr)) (fp : List Addr) (a : α), ME (X.blk s H scope (compEnvC scope cl C X.env) fp) g B (put a (wipeS S (own.map (·.2)))) elt (some (f a)) (KI g)) (hc : X.calm = true := by rfl) (hs : ∀ x, foldedSetIterable iter X.env x = pure x := by intro _; rfl) :
    ME X g B S (.ListComp elt [⟨tg, iter, [], 0⟩] scope pos) (m >>= fun as => some (as.map f)) (fun bs => .fr (rl g bs)) :=
  (me_lc hN hi hb hts hG he hc hs).eq (by cases m with
    | none => rfl
    | some as => exact lcM_pure f as)
theorem mb_setLcFP (i : Nat) {x : Str} {scope : Scope} {own : List (Str × Nat)} {m : Option (List α)} {gt : TG} {put : α → SL → SL} {ts : List Nat} {t : α → Bool} {f : α → β} {fr : List β → Option o} (hN : X.N.Nodup) (hx : X.env.scope.names.lookup x = some .local) (hsw : swapsWith (.ListComp elt [⟨tg, iter, ifs, 0⟩] scope pos) (some (.Name x p)) pos'.line X.env = pure true) (hi : MI X g B S tg iter m) (hb : blkC X.N X.env.scope scope own = true) (hts : ∀ i ∈ ts, i ∈ own.map (·.2))
    (hG : ∀ (s : Shared) (H : Hp) (C : Addr) (cl : List (Str × Addr)) (fp : List Addr), MG (X.blk s H scope (compEnvC scope cl C X.env) fp) g tg gt put ts)
    (ht : ∀ (s : Shared) (H : Hp) (C : Addr) (cl : List (Str × Addr)) (fp : List Addr) (a : α), MTs (X.blk s H scope (compEnvC scope cl C X.env) fp) g B (put a (wipeS S (own.map (·.2)))) ifs (some (t a)))
    (he : ∀ (s : Shared) (H : Hp) (C : Addr) (cl : List (Str × Addr)) (fp : List Addr) (a : α), ME (X.blk s H scope (compEnvC scope cl C X.env) fp) g B (put a (wipeS S (own.map (·.2)))) elt (some (f a)) (KI g))
    (hr : ∀ bs, MB X g B J (S.set i (some (.fr (rl g bs)))) rest (fr bs) K) (hy : X.N[i]? = some x := by rfl) (hc : X.calm = true := by rfl) (hs : ∀ x, foldedSetIterable iter X.env x = pure x := by intro _; rfl) :
    MB X g B J S (.Assign [.Name x p] (.ListComp elt [⟨tg, iter, ifs, 0⟩] scope pos) pos' :: rest) (m >>= fun as => fr ((as.filter t).map f)) K :=
  (mb_setLcF i hN hx hsw hi hb hts hG ht he hr hy hc hs).eq (by cases m with
    | none => rfl
    | some as =>
      show (lcF (fun a => some (t a)) (fun a => some (f a)) as >>= fr) = _
      rw [lcF_pure]; rfl)
theorem mb_setLcP (i : Nat) {x : Str} {scope : Scope} {own : List (Str × Nat)} {m : Option (List α)} {gt : TG} {put : α → SL → SL} {ts : List Nat} {f : α → β} {fr : List β → Option o} (hN : X.N.Nodup) (hx : X.env.scope.names.lookup x = some .local) (hsw : swapsWith (.ListComp elt [⟨tg, iter, [], 0⟩] scope pos) (some (.Name x p)) pos'.line X.env = pure true) (hi : MI X g B S tg iter m) (hb : blkC X.N X.env.scope scope own = true) (hts : ∀ i ∈ ts, i ∈ own.map (·.2))
    (hG : ∀ (s : Shared) (H : Hp) (C : Addr) (cl : List (Str × Addr)) (fp : List Addr), MG (X.blk s H scope (compEnvC scope cl C X.env) fp) g tg gt put ts)
    (he : ∀ (s : Shared) (H : Hp) (C : Addr) (cl : List (Str × Addr)) (fp : List Addr) (a : α), ME (X.blk s H scope (compEnvC scope cl C X.env) fp) g B (put a (wipeS S (own.map (·.2)))) elt (some (f a)) (KI g))
    (hr : ∀ bs, MB X g B J (S.set i (some (.fr (rl g bs)))) rest (fr bs) K) (hy : X.N[i]? = some x := by rfl) (hc : X.calm = true := by rfl) (hs : ∀ x, foldedSetIterable iter X.env x = pure x := by intro _; rfl) :
    MB X g B J S (.Assign [.Name x p] (.ListComp elt [⟨tg, iter, [], 0⟩] scope pos) pos' :: rest) (m >>= fun as => fr (as.map f)) K :=
  (mb_setLc i hN hx hsw hi hb hts hG he hr hy hc hs).eq (by cases m with
    | none => rfl
    | some as =>
      show (lcM (fun a => some (f a)) as >>= fr) = _
      rw [lcM_pure]; rfl)
end
end T
set_option Elab.async false
set_option linter.all false
set_option maxRecDepth 100000
namespace T
open PySem PySem.Spec PyProof.Rows L2
/-- behind a loop that no value leaves -/
def Ctl.upN {β β2 : Type} (f : β → Option β2) : Ctl β Empty Empty → Option β2
  | .nx b => f b
  | .rt r => r.elim
  | .ct c => c.elim
  | .bk c => c.elim
theorem kr_n {g : Gb} {B : Bs} {o : Type} {K : KT o} {k : Empty → RK} : KR g B K (fun r : Empty => r.elim) k := fun r => r.elim
theorem bindP {α β : Type} (a : α) (f : α → Option β) : ((some a : Option α) >>= f) = f a := rfl
section
variable {X : Cx} {g : Gb} {B : Bs} {J : Hp} {S : SL} {e tg c : Expr} {pos : Pos} {o α β β2 γ γ2 ρ : Type} {K : KT o} {rest body : List Stmt} [Py α]
/-- loops that may be left: at a def's level; within a turn or a part that may leave; where only their own turns are left -/
theorem mb_forT {m : Option (List α)} {put : α → SL → SL} {S' : γ → SL} {s0 : γ} {k : ρ → RK} {fb : γ → α → Option (Ctl γ γ ρ)} {f : γ → Option ρ} (hi : MI X g B S tg e m) {gt : TG} {ts : List Nat} (hG : MG X g tg gt put ts) (w : Wk S (S' s0))
    (hb : ∀ J s a, MB X g B J (put a (S' s)) body (fb s a) (Kc g B J S' S' k)) (hr : ∀ s, MB X g B J (S' s) rest (f s) (Kt g B k)) (hp : PassesOwn (model X.prog X.w) X.A X.env X.xe := by exact PassesOwn.never) (hc : X.calm = true := by rfl) (hs : ∀ x, foldedSetIterable e X.env x = pure x := by intro _; rfl) :
    MB X g B J S (.For tg e body [] pos :: rest) (m >>= fun as => loopC fb as s0 >>= Ctl.seqT f) (Kt g B k) :=
  mb_forC kr_t hp hi hG w hb hr (fun _ => rfl) (fun _ => rfl) hc hs
theorem mb_forU {m : Option (List α)} {put : α → SL → SL} {S' : γ → SL} {S2 : β2 → SL} {T2 : γ2 → SL} {s0 : γ} {k : ρ → RK} {fb : γ → α → Option (Ctl γ γ ρ)} {f : γ → Option (Ctl β2 γ2 ρ)} (hi : MI X g B S tg e m) {gt : TG} {ts : List Nat} (hG : MG X g tg gt put ts) (w : Wk S (S' s0))
    (hb : ∀ J s a, MB X g B J (put a (S' s)) body (fb s a) (Kc g B J S' S' k)) (hr : ∀ s, MB X g B J (S' s) rest (f s) (Kc g B J S2 T2 k)) (hp : PassesOwn (model X.prog X.w) X.A X.env X.xe := by exact PassesOwn.never) (hc : X.calm = true := by rfl) (hs : ∀ x, foldedSetIterable e X.env x = pure x := by intro _; rfl) :
    MB X g B J S (.For tg e body [] pos :: rest) (m >>= fun as => loopC fb as s0 >>= Ctl.up f) (Kc g B J S2 T2 k) :=
  mb_forC kr_c hp hi hG w hb hr (fun _ => rfl) (fun _ => rfl) hc hs
theorem mb_forN {m : Option (List α)} {put : α → SL → SL} {S' : γ → SL} {s0 : γ} {fb : γ → α → Option (Ctl γ γ Empty)} {f : γ → Option o} (hi : MI X g B S tg e m) {gt : TG} {ts : List Nat} (hG : MG X g tg gt put ts) (w : Wk S (S' s0))
    (hb : ∀ J s a, MB X g B J (put a (S' s)) body (fb s a) (Kc g B J S' S' (fun z : Empty => z.elim))) (hr : ∀ s, MB X g B J (S' s) rest (f s) K) (hp : PassesOwn (model X.prog X.w) X.A X.env X.xe := by exact PassesOwn.never) (hc : X.calm = true := by rfl) (hs : ∀ x, foldedSetIterable e X.env x = pure x := by intro _; rfl) :
    MB X g B J S (.For tg e body [] pos :: rest) (m >>= fun as => loopC fb as s0 >>= Ctl.upN f) K :=
  mb_forC (inj := fun r : Empty => r.elim) kr_n hp hi hG w hb hr (fun _ => rfl) (fun r => r.elim) hc hs
theorem mb_whileT (N : Nat) {S' : γ → SL} {s0 : γ} {k : ρ → RK} {cm : γ → Option Bool} {fb : γ → Option (Ctl γ γ ρ)} {f : γ → Option ρ} (w : Wk S (S' s0)) (hc : ∀ s, MT X g B (S' s) c (cm s)) (hb : ∀ s, MB X g B J (S' s) body (fb s) (Kc g B J S' S' k)) (hr : ∀ s, MB X g B J (S' s) rest (f s) (Kt g B k))
    (hp : PassesOwn (model X.prog X.w) X.A X.env X.xe := by exact PassesOwn.never) : MB X g B J S (.While c body [] pos :: rest) (whileC cm fb N s0 >>= Ctl.seqT f) (Kt g B k) :=
  mb_while N kr_t hp w hc hb hr (fun _ => rfl) (fun _ => rfl)
theorem mb_whileU (N : Nat) {S' : γ → SL} {S2 : β2 → SL} {T2 : γ2 → SL} {s0 : γ} {k : ρ → RK} {cm : γ → Option Bool} {fb : γ → Option (Ctl γ γ ρ)} {f : γ → Option (Ctl β2 γ2 ρ)} (w : Wk S (S' s0)) (hc : ∀ s, MT X g B (S' s) c (cm s)) (hb : ∀ s, MB X g B J (S' s) body (fb s) (Kc g B J S' S' k)) (hr : ∀ s, MB X g B J (S' s) rest (f s) (Kc g B J S2 T2 k))
    (hp : PassesOwn (model X.prog X.w) X.A X.env X.xe := by exact PassesOwn.never) : MB X g B J S (.While c body [] pos :: rest) (whileC cm fb N s0 >>= Ctl.up f) (Kc g B J S2 T2 k) :=
  mb_while N kr_c hp w hc hb hr (fun _ => rfl) (fun _ => rfl)
theorem mb_whileN (N : Nat) {S' : γ → SL} {s0 : γ} {cm : γ → Option Bool} {fb : γ → Option (Ctl γ γ Empty)} {f : γ → Option o} (w : Wk S (S' s0)) (hc : ∀ s, MT X g B (S' s) c (cm s)) (hb : ∀ s, MB X g B J (S' s) body (fb s) (Kc g B J S' S' (fun z : Empty => z.elim))) (hr : ∀ s, MB X g B J (S' s) rest (f s) K)
    (hp : PassesOwn (model X.prog X.w) X.A X.env X.xe := by exact PassesOwn.never) : MB X g B J S (.While c body [] pos :: rest) (whileC cm fb N s0 >>= Ctl.upN f) K :=
  mb_while (inj := fun r : Empty => r.elim) N kr_n hp w hc hb hr (fun _ => rfl) (fun r => r.elim)
end
end T
set_option Elab.async false
set_option linter.all false
set_option maxRecDepth 100000
namespace T
open PySem PySem.Spec PyProof.Rows L2
/-! what is known ahead of a step is put in -/
section
variable {X : Cx} {g : Gb} {B : Bs} {J : Hp} {S : SL} {e tg : Expr} {oe : Option Expr} {es ifs : List Expr} {sts : List Stmt} {α β γ δ ε : Type}
theorem ME.p1 {a : α} {f : α → Option δ} {r : Option δ} {k : δ → RK} (h : ME X g B S e (some a >>= f) k) (q : f a = r := by exact rfl) : ME X g B S e r k := q ▸ h
theorem ME.p2 {m : Option α} {b : β} {f : α → β → Option δ} {r : Option δ} {k : δ → RK} (h : ME X g B S e (m >>= fun a => some b >>= f a) k) (q : (m >>= fun a => f a b) = r := by exact rfl) : ME X g B S e r k := q ▸ h
theorem ME.p3 {m : Option α} {m2 : α → Option β} {c : γ} {f : α → β → γ → Option δ} {r : Option δ} {k : δ → RK} (h : ME X g B S e (m >>= fun a => m2 a >>= fun b => some c >>= f a b) k) (q : (m >>= fun a => m2 a >>= fun b => f a b c) = r := by exact rfl) : ME X g B S e r k := q ▸ h
theorem MT.p1 {a : α} {f : α → Option Bool} {r : Option Bool} (h : MT X g B S e (some a >>= f)) (q : f a = r := by exact rfl) : MT X g B S e r := q ▸ h
theorem MT.p2 {m : Option α} {b : β} {f : α → β → Option Bool} {r : Option Bool} (h : MT X g B S e (m >>= fun a => some b >>= f a)) (q : (m >>= fun a => f a b) = r := by exact rfl) : MT X g B S e r := q ▸ h
theorem MT.p3 {m : Option α} {m2 : α → Option β} {c : γ} {f : α → β → γ → Option Bool} {r : Option Bool} (h : MT X g B S e (m >>= fun a => m2 a >>= fun b => some c >>= f a b)) (q : (m >>= fun a => m2 a >>= fun b => f a b c) = r := by exact rfl) : MT X g B S e r := q ▸ h
theorem MC.p1 {a : α} {f : α → Option Bool} {r : Option Bool} (h : MC X g B S e (some a >>= f)) (q : f a = r := by exact rfl) : MC X g B S e r := q ▸ h
theorem MC.p2 {m : Option α} {b : β} {f : α → β → Option Bool} {r : Option Bool} (h : MC X g B S e (m >>= fun a => some b >>= f a)) (q : (m >>= fun a => f a b) = r := by exact rfl) : MC X g B S e r := q ▸ h
theorem MC.p3 {m : Option α} {m2 : α → Option β} {c : γ} {f : α → β → γ → Option Bool} {r : Option Bool} (h : MC X g B S e (m >>= fun a => m2 a >>= fun b => some c >>= f a b)) (q : (m >>= fun a => m2 a >>= fun b => f a b c) = r := by exact rfl) : MC X g B S e r := q ▸ h
theorem MW.p1 {a : α} {f : α → Option Bool} {r : Option Bool} (h : MW X g B S e (some a >>= f)) (q : f a = r := by exact rfl) : MW X g B S e r := q ▸ h
theorem MW.p2 {m : Option α} {b : β} {f : α → β → Option Bool} {r : Option Bool} (h : MW X g B S e (m >>= fun a => some b >>= f a)) (q : (m >>= fun a => f a b) = r := by exact rfl) : MW X g B S e r := q ▸ h
theorem MW.p3 {m : Option α} {m2 : α → Option β} {c : γ} {f : α → β → γ → Option Bool} {r : Option Bool} (h : MW X g B S e (m >>= fun a => m2 a >>= fun b => some c >>= f a b)) (q : (m >>= fun a => m2 a >>= fun b => f a b c) = r := by exact rfl) : MW X g B S e r := q ▸ h
theorem MTs.p1 {a : α} {f : α → Option Bool} {r : Option Bool} (h : MTs X g B S ifs (some a >>= f)) (q : f a = r := by exact rfl) : MTs X g B S ifs r := q ▸ h
theorem MTs.p2 {m : Option α} {b : β} {f : α → β → Option Bool} {r : Option Bool} (h : MTs X g B S ifs (m >>= fun a => some b >>= f a)) (q : (m >>= fun a => f a b) = r := by exact rfl) : MTs X g B S ifs r := q ▸ h
theorem MTs.p3 {m : Option α} {m2 : α → Option β} {c : γ} {f : α → β → γ → Option Bool} {r : Option Bool} (h : MTs X g B S ifs (m >>= fun a => m2 a >>= fun b => some c >>= f a b)) (q : (m >>= fun a => m2 a >>= fun b => f a b c) = r := by exact rfl) : MTs X g B S ifs r := q ▸ h
theorem MI.p1 [Py δ] {a : α} {f : α → Option (List δ)} {r : Option (List δ)} (h : MI X g B S tg e (some a >>= f)) (q : f a = r := by exact rfl) : MI X g B S tg e r := q ▸ h
theorem MI.p2 [Py δ] {m : Option α} {b : β} {f : α → β → Option (List δ)} {r : Option (List δ)} (h : MI X g B S tg e (m >>= fun a => some b >>= f a)) (q : (m >>= fun a => f a b) = r := by exact rfl) : MI X g B S tg e r := q ▸ h
theorem MI.p3 [Py δ] {m : Option α} {m2 : α → Option β} {c : γ} {f : α → β → γ → Option (List δ)} {r : Option (List δ)} (h : MI X g B S tg e (m >>= fun a => m2 a >>= fun b => some c >>= f a b)) (q : (m >>= fun a => m2 a >>= fun b => f a b c) = r := by exact rfl) : MI X g B S tg e r := q ▸ h
theorem MSt.p1 [Py δ] {a : α} {f : α → Option (List δ)} {r : Option (List δ)} (h : MSt X g B S e (some a >>= f)) (q : f a = r := by exact rfl) : MSt X g B S e r := q ▸ h
theorem MSt.p2 [Py δ] {m : Option α} {b : β} {f : α → β → Option (List δ)} {r : Option (List δ)} (h : MSt X g B S e (m >>= fun a => some b >>= f a)) (q : (m >>= fun a => f a b) = r := by exact rfl) : MSt X g B S e r := q ▸ h
theorem MSt.p3 [Py δ] {m : Option α} {m2 : α → Option β} {c : γ} {f : α → β → γ → Option (List δ)} {r : Option (List δ)} (h : MSt X g B S e (m >>= fun a => m2 a >>= fun b => some c >>= f a b)) (q : (m >>= fun a => m2 a >>= fun b => f a b c) = r := by exact rfl) : MSt X g B S e r := q ▸ h
theorem ML.p1 [Py δ] {a : α} {f : α → Option (List δ)} {r : Option (List δ)} (h : ML X g B S es (some a >>= f)) (q : f a = r := by exact rfl) : ML X g B S es r := q ▸ h
theorem ML.p2 [Py δ] {m : Option α} {b : β} {f : α → β → Option (List δ)} {r : Option (List δ)} (h : ML X g B S es (m >>= fun a => some b >>= f a)) (q : (m >>= fun a => f a b) = r := by exact rfl) : ML X g B S es r := q ▸ h
theorem ML.p3 [Py δ] {m : Option α} {m2 : α → Option β} {c : γ} {f : α → β → γ → Option (List δ)} {r : Option (List δ)} (h : ML X g B S es (m >>= fun a => m2 a >>= fun b => some c >>= f a b)) (q : (m >>= fun a => m2 a >>= fun b => f a b c) = r := by exact rfl) : ML X g B S es r := q ▸ h
theorem MO.p1 {a : α} {f : α → Option (Option Int)} {r : Option (Option Int)} (h : MO X g B S oe (some a >>= f)) (q : f a = r := by exact rfl) : MO X g B S oe r := q ▸ h
theorem MO.p2 {m : Option α} {b : β} {f : α → β → Option (Option Int)} {r : Option (Option Int)} (h : MO X g B S oe (m >>= fun a => some b >>= f a)) (q : (m >>= fun a => f a b) = r := by exact rfl) : MO X g B S oe r := q ▸ h
theorem MO.p3 {m : Option α} {m2 : α → Option β} {c : γ} {f : α → β → γ → Option (Option Int)} {r : Option (Option Int)} (h : MO X g B S oe (m >>= fun a => m2 a >>= fun b => some c >>= f a b)) (q : (m >>= fun a => m2 a >>= fun b => f a b c) = r := by exact rfl) : MO X g B S oe r := q ▸ h
theorem MB.p1 {a : α} {f : α → Option δ} {r : Option δ} {K : KT δ} (h : MB X g B J S sts (some a >>= f) K) (q : f a = r := by exact rfl) : MB X g B J S sts r K := q ▸ h
theorem MB.p2 {m : Option α} {b : β} {f : α → β → Option δ} {r : Option δ} {K : KT δ} (h : MB X g B J S sts (m >>= fun a => some b >>= f a) K) (q : (m >>= fun a => f a b) = r := by exact rfl) : MB X g B J S sts r K := q ▸ h
theorem MB.p3 {m : Option α} {m2 : α → Option β} {c : γ} {f : α → β → γ → Option δ} {r : Option δ} {K : KT δ} (h : MB X g B J S sts (m >>= fun a => m2 a >>= fun b => some c >>= f a b) K) (q : (m >>= fun a => m2 a >>= fun b => f a b c) = r := by exact rfl) : MB X g B J S sts r K := q ▸ h
theorem MA.p1 {ι : Type} {dvs : List V} {args : ι → List RK} {a : α} {f : α → Option δ} {r : Option δ} {M : ι → Option δ} (h : MA X g B S es dvs args (some a >>= f) M) (q : f a = r := by exact rfl) : MA X g B S es dvs args r M := q ▸ h
theorem ma_nl {o : Type} {M : Unit → Option o} {r : Option o} (q : M () = r := by exact rfl) : MA X g B S [] [] (fun _ : Unit => []) r M := q ▸ ma_nil
end
theorem paired_ints {g : Gb} {I : Hp} : ∀ ns : List Int, Paired (fun a v => (Py.r g a).p I v) ns (ns.map V.int)
  | [] => .nil
  | _ :: ns => .cons rfl (paired_ints ns)
/-- a law's own promise -/
def spL (K : PySem.W.Frag) : Sp := fun vs H Q _ => ∃ (a : Addr) (ns : List Int), vs = [.ref a] ∧ SqL K H a (ns.map V.int) ∧ ns.length ≤ 63 ∧ ∀ H', Q (.bl true) H'
theorem fin_bw {P : Program} {w : World} {K : PySem.W.Frag} {mg : Str → Option Value} {base : Heap} {k : Nat} {f : Addr} {fd : FuncData} {ps : List Str} {M : List Int → Option Bool} (hM : ∀ ns : List Int, ns.length ≤ 63 → M ns = some true)
    (F : FnOk P w K mg base CX0 k f fd ps (spT (Gb.mk K mg) (fun p : List Int × Unit => [.bw (rl (Gb.mk K mg) p.1)]) (fun p => M p.1) (fun r => .im (Py.r (Gb.mk K mg) (r : Bool))))) : FnOk P w K mg base CX0 k f fd ps (spL K) :=
  F.imp fun vs H Q E ⟨a, ns, e, hS, hl, q⟩ => by
    subst e
    exact ⟨H, (ns, ()), true, Same.refl H, .cons ⟨a, _, rfl, hS, Nat.le_trans hl (by decide), paired_ints ns⟩ .nil, hM ns hl, fun v I' H' _ hv => by cases hv; exact q H'⟩
theorem fin_im {P : Program} {w : World} {K : PySem.W.Frag} {mg : Str → Option Value} {base : Heap} {k : Nat} {f : Addr} {fd : FuncData} {ps : List Str} {M : List Int → Option Bool} (hM : ∀ ns : List Int, ns.length ≤ 63 → M ns = some true)
    (F : FnOk P w K mg base CX0 k f fd ps (spT (Gb.mk K mg) (fun p : List Int × Unit => [.im (Py.r (Gb.mk K mg) p.1)]) (fun p => M p.1) (fun r => .im (Py.r (Gb.mk K mg) (r : Bool))))) : FnOk P w K mg base CX0 k f fd ps (spL K) :=
  F.imp fun vs H Q E ⟨a, ns, e, hS, hl, q⟩ => by
    subst e
    exact ⟨H, (ns, ()), true, Same.refl H, .cons ⟨a, _, rfl, hS, Nat.le_trans hl (by decide), paired_ints ns⟩ .nil, hM ns hl, fun v I' H' _ hv => by cases hv; exact q H'⟩
end T
set_option Elab.async false
set_option linter.all false
set_option maxRecDepth 100000
/-! plain lemmas about what the mirrors are made of -/
namespace T
open PySem L2
theorem mulO_l {i j : Int} (h : -(2 ^ 64) < i) (h2 : i < 2 ^ 64) : mulO i j = some (i * j) := by
  rw [mulO_eq, if_pos]
  unfold mulOk
  rw [decide_eq_true (⟨h, h2⟩ : -(2 ^ 64) < i ∧ i < 2 ^ 64)]; rfl
theorem mulO_r {i j : Int} (h : -(2 ^ 64) < j) (h2 : j < 2 ^ 64) : mulO i j = some (i * j) := by
  rw [mulO_eq, if_pos]
  unfold mulOk
  rw [decide_eq_true (⟨h, h2⟩ : -(2 ^ 64) < j ∧ j < 2 ^ 64), Bool.or_true]; rfl
theorem modO_ok {i j : Int} (h : 0 < j) : modO i j = some (i % j) := by
  rw [modO_eq, if_pos]
  unfold modOk
  rw [decide_eq_true h]
theorem divO_ok {i j : Int} (h : 0 < j) (h2 : j < 2 ^ 1000) : divO i j = some (i / j) := by
  rw [divO_eq, if_pos]
  unfold divOk
  refine decide_eq_true ⟨h, ?_⟩
  have h3 : j.natAbs < 2 ^ 1000 := by omega
  have h4 : j.natAbs.log2 < 1000 := (Nat.log2_lt (by omega)).mpr h3
  omega
theorem sizeLine_eq : sizeLine = 16777216 := by decide
theorem appO_ok {α : Type} {xs : List α} {x : α} (h : xs.length < 16777216) : appO xs x = some (xs ++ [x]) := by
  unfold appO
  rw [if_pos (decide_eq_true (by rw [sizeLine_eq]; exact h))]
theorem catO_ok {α : Type} {xs ys : List α} (h : xs.length + ys.length ≤ 16777216) : catO xs ys = some (xs ++ ys) := by
  unfold catO
  rw [if_pos]
  unfold catOk
  exact decide_eq_true (by rw [sizeLine_eq]; exact h)
theorem flat_rep {α : Type} (x : α) : ∀ n : Nat, (List.replicate n [x]).flatten = List.replicate n x
  | 0 => rfl
  | n + 1 => by rw [List.replicate_succ, List.replicate_succ, List.flatten_cons, flat_rep x n]; rfl
theorem repO_one {α : Type} {x : α} {k : Int} (h : k ≤ 16777216) (h2 : 0 ≤ k) : repO [x] k = some (List.replicate k.toNat x) := by
  unfold repO
  rw [if_pos, flat_rep]
  unfold repOk
  rw [Bool.and_eq_true, decide_eq_true_eq, decide_eq_true_eq, sizeLine_eq, List.length_singleton]
  refine ⟨⟨by omega, by omega⟩, by omega⟩
theorem atO_ok {α : Type} {xs : List α} {i : Int} {v : α} (h0 : 0 ≤ i) (h : xs[i.toNat]? = some v) : atO xs i = some v := by
  rw [atO_eq]
  have e : ((i.toNat : Nat) : Int) = i := by omega
  rw [← e]
  exact atI_nat h
theorem atO_nat {α : Type} {xs : List α} {i : Nat} {v : α} (h : xs[i]? = some v) : atO xs (i : Int) = some v := by
  rw [atO_eq]
  exact atI_nat h
theorem atO_get {α : Type} {xs : List α} {i : Int} (h0 : 0 ≤ i) (h : i < xs.length) : atO xs i = some (xs[i.toNat]'(by omega)) := atO_ok h0 (List.getElem?_eq_getElem _)
theorem atO_inv {α : Type} {xs : List α} {i : Int} {v : α} (h0 : 0 ≤ i) (h : atO xs i = some v) : xs[i.toNat]? = some v := by
  rw [atO_eq] at h
  obtain ⟨j, e1, e2⟩ := atI_ix h
  unfold ixN at e1
  rw [if_pos h0] at e1
  split at e1
  · cases e1; exact e2
  · cases e1
theorem setO_ok {α : Type} {xs : List α} {i : Int} {x : α} (h0 : 0 ≤ i) (h : i < xs.length) : setO xs i x = some (xs.set i.toNat x) := by
  unfold setO ixN
  rw [if_pos h0, if_pos h]; rfl
theorem rng1O_ok {n : Int} (h : n ≤ 16777216) (h0 : -1000 ≤ n) : rng1O n = some (rng 0 n.toNat) := by
  unfold rng1O
  rw [if_pos]
  unfold rngOk
  rw [Bool.and_eq_true, decide_eq_true_eq, decide_eq_true_eq, sizeLine_eq]
  refine ⟨⟨by decide, by decide, by omega, by omega⟩, by omega⟩
theorem rng2O_ok {a b : Int} (ha : -1000 ≤ a) (hb : b ≤ 16000000) (ha2 : a ≤ 16000000) (hb2 : -1000 ≤ b) : rng2O a b = some (rng a (b - a).toNat) := by
  unfold rng2O
  rw [if_pos]
  unfold rngOk
  rw [Bool.and_eq_true, decide_eq_true_eq, decide_eq_true_eq, sizeLine_eq]
  refine ⟨⟨by omega, by omega, by omega, by omega⟩, by omega⟩
theorem fits {i : Int} (h : -1000000000 ≤ i) (h2 : i ≤ 1000000000) : Builtin.Range.rangeFitsLong i = true := by
  unfold Builtin.Range.rangeFitsLong
  rw [Bool.and_eq_true, decide_eq_true_eq, decide_eq_true_eq]
  omega
theorem rngSize_pos {a b c : Int} (hc : 0 < c) : Builtin.Range.rangeSize a b c = if a < b then (b - a - 1) / c + 1 else 0 := by
  unfold Builtin.Range.rangeSize
  rw [if_pos hc]
theorem rng3O_ok {a b c : Int} (hc : 0 < c) (hc2 : c < 16000000) (ha : -1000 ≤ a) (hb : b ≤ 16000000) (ha2 : a ≤ 16000000) (hb2 : -1000 ≤ b) : rng3O a b c = some (rng3 a c (if a < b then (b - a - 1) / c + 1 else 0).toNat) := by
  have hs := rngSize_pos (a := a) (b := b) hc
  have hd : a < b → 0 ≤ (b - a - 1) / c ∧ (b - a - 1) / c ≤ b - a - 1 := fun h => ⟨Int.ediv_nonneg (by omega) (by omega), Int.ediv_le_self _ (by omega)⟩
  unfold rng3O
  rw [if_pos, hs]
  unfold rng3Ok
  rw [Bool.and_eq_true, Bool.and_eq_true, decide_eq_true_eq, decide_eq_true_eq, hs, sizeLine_eq]
  have hz : 0 ≤ (if a < b then (b - a - 1) / c + 1 else 0) ∧ (if a < b then (b - a - 1) / c + 1 else 0) ≤ 16001001 := by
    split
    · have := hd (by assumption); omega
    · omega
  refine ⟨⟨⟨by omega, by omega⟩, ?_⟩, by omega⟩
  unfold Builtin.Range.small
  simp only [Bool.and_eq_true, decide_eq_true_eq, hs]
  generalize (if a < b then (b - a - 1) / c + 1 else 0) = n at hz
  refine ⟨⟨⟨⟨fits (by omega) (by omega), fits (by omega) (by omega)⟩, fits (by omega) (by omega)⟩, fits (by omega) (by omega)⟩, ?_⟩
  rw [if_pos (by omega : c > 0), fits (by omega) (by omega), Bool.or_true]
/-! slices -/
theorem sIx_ge {n d : Nat} {v : Int} (h : 0 ≤ v) : HT.sIx n d (some v) = min v.toNat n := by
  show (if v < 0 then (v + (n : Int)).toNat else min v.toNat n) = _
  rw [if_neg (by omega)]
theorem cutO_to {α : Type} (xs : List α) {k : Int} (h : 0 ≤ k) : cutO xs none (some k) = xs.take k.toNat := by
  unfold cutO
  rw [sIx_ge h, HT.sIx_none, List.drop_zero, Nat.sub_zero]
  by_cases hk : k.toNat ≤ xs.length
  · rw [Nat.min_eq_left hk]
  · rw [Nat.min_eq_right (by omega), List.take_of_length_le (Nat.le_refl _), List.take_of_length_le (by omega)]
theorem cutO_from {α : Type} (xs : List α) {k : Int} (h : 0 ≤ k) : cutO xs (some k) none = xs.drop k.toNat := by
  unfold cutO
  rw [sIx_ge h, HT.sIx_none]
  by_cases hk : k.toNat ≤ xs.length
  · rw [Nat.min_eq_left hk, List.take_of_length_le (by rw [List.length_drop]; omega)]
  · rw [Nat.min_eq_right (by omega), List.drop_of_length_le (Nat.le_refl _), List.drop_of_length_le (by omega)]; simp
theorem cutO_mid {α : Type} (xs : List α) {a b : Int} (h : 0 ≤ a) (h2 : a ≤ b) : cutO xs (some a) (some b) = (xs.drop a.toNat).take (b - a).toNat := by
  unfold cutO
  rw [sIx_ge h, sIx_ge (show 0 ≤ b by omega)]
  by_cases hk : a.toNat ≤ xs.length
  · rw [Nat.min_eq_left hk]
    by_cases hb : b.toNat ≤ xs.length
    · rw [Nat.min_eq_left hb]
      congr 1
      omega
    · rw [Nat.min_eq_right (by omega), List.take_of_length_le (by rw [List.length_drop]; omega), List.take_of_length_le (by rw [List.length_drop]; omega)]
  · rw [Nat.min_eq_right (show xs.length ≤ a.toNat by omega), List.drop_of_length_le (Nat.le_refl _), List.drop_of_length_le (show xs.length ≤ a.toNat by omega)]; simp
theorem cutO_len {α : Type} (xs : List α) (a b : Option Int) : (cutO xs a b).length ≤ xs.length := by
  unfold cutO
  rw [List.length_take, List.length_drop]
  omega
theorem cutO_mem {α : Type} {xs : List α} {a b : Option Int} {x : α} (h : x ∈ cutO xs a b) : x ∈ xs := List.mem_of_mem_drop (List.mem_of_mem_take h)
/-! loops -/
theorem loopN_ind {α γ : Type} {f : γ → α → Option γ} {as : List α} {s0 : γ} (Pv : List α → γ → Prop) (h0 : Pv [] s0) (hs : ∀ pre a post s, as = pre ++ a :: post → Pv pre s → ∃ s', f s a = some s' ∧ Pv (pre ++ [a]) s') : ∃ s', loopN f as s0 = some s' ∧ Pv as s' := by
  have key : ∀ (post pre : List α) (s : γ), as = pre ++ post → Pv pre s → ∃ s', loopN f post s = some s' ∧ Pv as s' := by
    intro post
    induction post with
    | nil =>
      intro pre s e p
      rw [List.append_nil] at e
      exact ⟨s, rfl, e ▸ p⟩
    | cons a post ih =>
      intro pre s e p
      obtain ⟨s1, e1, p1⟩ := hs pre a post s e p
      obtain ⟨s2, e2, p2⟩ := ih (pre ++ [a]) s1 (by rw [List.append_assoc]; exact e) p1
      refine ⟨s2, ?_, p2⟩
      show (f s a >>= fun s' => loopN f post s') = some s2
      rw [e1]; exact e2
  exact key as [] s0 rfl h0
theorem loopC_ind {α γ ρ : Type} {f : γ → α → Option (Ctl γ γ ρ)} {as : List α} {s0 : γ} (Pv : List α → γ → Prop) (h0 : Pv [] s0) (hs : ∀ pre a post s, as = pre ++ a :: post → Pv pre s → ∃ s', (f s a = some (.nx s') ∨ f s a = some (.ct s')) ∧ Pv (pre ++ [a]) s') : ∃ s', loopC f as s0 = some (.nx s') ∧ Pv as s' := by
  have key : ∀ (post pre : List α) (s : γ), as = pre ++ post → Pv pre s → ∃ s', loopC f post s = some (.nx s') ∧ Pv as s' := by
    intro post
    induction post with
    | nil =>
      intro pre s e p
      rw [List.append_nil] at e
      exact ⟨s, rfl, e ▸ p⟩
    | cons a post ih =>
      intro pre s e p
      obtain ⟨s1, e1, p1⟩ := hs pre a post s e p
      obtain ⟨s2, e2, p2⟩ := ih (pre ++ [a]) s1 (by rw [List.append_assoc]; exact e) p1
      refine ⟨s2, ?_, p2⟩
      unfold loopC
      rcases e1 with e1 | e1
      · rw [e1]; exact e2
      · rw [e1]; exact e2
  exact key as [] s0 rfl h0
/-- a loop whose turns all go on and carry nothing -/
theorem loopC_unit {α ρ : Type} {f : Unit → α → Option (Ctl Unit Unit ρ)} {as : List α} (hs : ∀ a ∈ as, f () a = some (.nx ()) ∨ f () a = some (.ct ())) : loopC f as () = some (.nx ()) := by
  obtain ⟨s, e, _⟩ := loopC_ind (f := f) (as := as) (s0 := ()) (fun _ _ => True) trivial fun pre a post s e _ => ⟨(), hs a (by rw [e]; simp), trivial⟩
  exact e
theorem lcM_ok {α β : Type} {f : α → Option β} {g : α → β} : ∀ {as : List α}, (∀ a ∈ as, f a = some (g a)) → lcM f as = some (as.map g)
  | [], _ => rfl
  | a :: as, h => by
    show (f a >>= fun b => lcM f as >>= fun bs => some (b :: bs)) = _
    rw [h a List.mem_cons_self, lcM_ok (as := as) fun b hb => h b (List.mem_cons_of_mem _ hb)]
    rfl
theorem lcM_ex {α β : Type} {f : α → Option β} {R : α → β → Prop} : ∀ {as : List α}, (∀ a ∈ as, ∃ b, f a = some b ∧ R a b) → ∃ bs, lcM f as = some bs ∧ bs.length = as.length ∧ ∀ b ∈ bs, ∃ a ∈ as, R a b
  | [], _ => ⟨[], rfl, rfl, fun _ h => by cases h⟩
  | a :: as, h => by
    obtain ⟨b, e, r⟩ := h a List.mem_cons_self
    obtain ⟨bs, e2, l, r2⟩ := lcM_ex (as := as) fun c hc => h c (List.mem_cons_of_mem _ hc)
    refine ⟨b :: bs, ?_, by rw [List.length_cons, List.length_cons, l], fun c hc => ?_⟩
    · show (f a >>= fun b => lcM f as >>= fun bs => some (b :: bs)) = _
      rw [e, e2]; rfl
    · rcases List.mem_cons.mp hc with z | z
      · exact ⟨a, List.mem_cons_self, z ▸ r⟩
      · obtain ⟨d, h1, h2⟩ := r2 c z
        exact ⟨d, List.mem_cons_of_mem _ h1, h2⟩
theorem lcF_ok {α β : Type} {t : α → Option Bool} {f : α → Option β} {u : α → Bool} {g : α → β} : ∀ {as : List α}, (∀ a ∈ as, t a = some (u a)) → (∀ a ∈ as, u a = true → f a = some (g a)) → lcF t f as = some ((as.filter u).map g)
  | [], _, _ => rfl
  | a :: as, h, h2 => by
    show (t a >>= fun b => if b = true then (f a >>= fun y => lcF t f as >>= fun ys => some (y :: ys)) else lcF t f as) = _
    rw [h a List.mem_cons_self, List.filter_cons, lcF_ok (as := as) (fun b hb => h b (List.mem_cons_of_mem _ hb)) fun b hb => h2 b (List.mem_cons_of_mem _ hb)]
    show (if u a = true then _ else _) = _
    cases q : u a with
    | true => rw [if_pos rfl, if_pos rfl, h2 a List.mem_cons_self q]; rfl
    | false => rw [if_neg Bool.false_ne_true, if_neg Bool.false_ne_true]
/-! ranges -/
theorem rng_nil {lo : Int} : rng lo 0 = [] := rfl
theorem rng_mem {lo : Int} {n : Nat} {x : Int} (h : x ∈ rng lo n) : lo ≤ x ∧ x < lo + n := by
  unfold rng at h
  obtain ⟨i, h1, rfl⟩ := List.mem_map.mp h
  rw [List.mem_range] at h1
  omega
theorem rng_at {lo : Int} {n : Nat} {pre post : List Int} {x : Int} (h : rng lo n = pre ++ x :: post) : x = lo + pre.length ∧ pre.length < n := by
  have h1 : (rng lo n)[pre.length]? = some x := by rw [h]; simp
  have hl : pre.length < n := by
    have := (List.getElem?_eq_some_iff.mp h1).1
    rwa [rng_len] at this
  rw [rng_get hl] at h1
  exact ⟨(Option.some.inj h1).symm, hl⟩
theorem rng3_mem {lo c : Int} {n : Nat} {x : Int} (h : x ∈ rng3 lo c n) : ∃ i : Nat, i < n ∧ x = lo + i * c := by
  unfold rng3 at h
  obtain ⟨i, h1, rfl⟩ := List.mem_map.mp h
  exact ⟨i, List.mem_range.mp h1, rfl⟩
theorem take_succ_at {α : Type} {xs : List α} {n : Nat} (h : n < xs.length) : xs.take (n + 1) = xs.take n ++ [xs[n]] := by
  rw [List.take_add_one, List.getElem?_eq_getElem h]; rfl
theorem ite_true {α : Type} {b : Bool} (h : b = true) {x y : α} : (if b = true then x else y) = x := if_pos h
theorem ite_false {α : Type} {b : Bool} (h : b = false) {x y : α} : (if b = true then x else y) = y := by rw [h]; rfl
end T
set_option Elab.async false
set_option linter.all false
set_option maxRecDepth 100000
set_option maxHeartbeats 4000000
namespace Law
open PySem PySem.Spec PyProof.Rows L2 T
def topS (i : Nat) : Stmt := PySem.Challenge.pw_voucherstack_k03_kinds_under_kinds.main.body.getD i (.Pass ⟨0, 0, 0, 0⟩)
abbrev s_law_cell_at : Stmt := topS 4
abbrev s_law_mix : Stmt := topS 5
abbrev s_law_parents_by : Stmt := topS 7
abbrev s_law_above : Stmt := topS 8
abbrev s_under : Stmt := topS 1
abbrev s_law : Stmt := topS 9
theorem sc_law_cell_at : FnScope ["_law_script", "_law_k"] ["_law_script", "_law_k"] (defScope s_law_cell_at) := ⟨rfl, rfl, rfl, by decide +kernel, rfl, by decide +kernel, by decide +kernel⟩
theorem sc_law_mix : FnScope ["_law_cell", "_law_factor", "_law_prime"] ["_law_cell", "_law_factor", "_law_prime"] (defScope s_law_mix) := ⟨rfl, rfl, rfl, by decide +kernel, rfl, by decide +kernel, by decide +kernel⟩
theorem sc_law_parents_by : FnScope ["_law_script", "_law_parents", "_law_k", "_law_mixed"] ["_law_script"] (defScope s_law_parents_by) := ⟨rfl, rfl, rfl, by decide +kernel, rfl, by decide +kernel, by decide +kernel⟩
theorem sc_law_above : FnScope ["_law_parents", "_law_above_here", "_law_k", "_law_mine"] ["_law_parents"] (defScope s_law_above) := ⟨rfl, rfl, rfl, by decide +kernel, rfl, by decide +kernel, by decide +kernel⟩
theorem sc_under : FnScope ["parents", "one", "other"] ["parents", "one", "other"] (defScope s_under) := ⟨rfl, rfl, rfl, by decide +kernel, rfl, by decide +kernel, by decide +kernel⟩
theorem sc_law : FnScope ["_law_script", "_law_parents", "_law_above_here", "_law_handed", "_law_one", "_law_other", "_law_found"] ["_law_script"] (defScope s_law) := ⟨rfl, rfl, rfl, by decide +kernel, rfl, by decide +kernel, by decide +kernel⟩
@[irreducible] def M.law_cell_at (x_law_script : (List Int)) (x_law_k : Int) : Option Int :=
  (if (decide (x_law_k < (x_law_script.length : Int))) = true then (atO x_law_script x_law_k) else some (0 : Int))
@[irreducible] def M.law_mix (x_law_cell : Int) (x_law_factor : Int) (x_law_prime : Int) : Option Int :=
  ((mulO x_law_cell x_law_factor) >>= fun v1 => (modO v1 x_law_prime))
@[irreducible] def M.law_parents_by (x_law_script : (List Int)) : Option (List (Option Int)) :=
  (let x_law_parents : (List (Option Int)) := ([] : (List (Option Int))); ((rng1O (min (20 : Int) (max (1 : Int) (x_law_script.length : Int)))) >>= fun v8 => (loopN (fun (z1 : (List (Option Int))) (x_law_k : Int) => (((M.law_cell_at x_law_script x_law_k) >>= fun v2 => M.law_mix v2 (48271 : Int) (2147483647 : Int)) >>= fun x_law_mixed => ((if ((decide (x_law_k = (0 : Int))) || (decide ((x_law_mixed % (4 : Int)) = (0 : Int)))) = true then (appO z1 (none : (Option Int)) >>= fun x_law_parents => some x_law_parents) else ((if (decide ((x_law_mixed % (2 : Int)) = (1 : Int))) = true then (appO z1 (some (x_law_k - (1 : Int)) : (Option Int)) >>= fun x_law_parents => some x_law_parents) else (((modO (x_law_mixed / (4 : Int)) x_law_k) >>= fun v5 => some ((some v5 : (Option Int)))) >>= fun v6 => (appO z1 v6 >>= fun x_law_parents => some x_law_parents))) >>= (fun (z4 : (List (Option Int))) => some z4))) >>= (fun (z3 : (List (Option Int))) => some z3)))) v8 x_law_parents >>= fun z7 => some z7)))
@[irreducible] def M.law_above (x_law_parents : (List (Option Int))) : Option (List (List Int)) :=
  (let x_law_above_here : (List (List Int)) := ([] : (List (List Int))); ((rng1O (x_law_parents.length : Int)) >>= fun v9 => (loopN (fun (z1 : (List (List Int))) (x_law_k : Int) => (let x_law_mine : (List Int) := (x_law_k :: ([] : (List Int))); (((atO x_law_parents x_law_k) >>= fun v2 => some (v2.isSome)) >>= fun v7 => ((if v7 = true then (((((atO x_law_parents x_law_k) >>= fun v4 => v4) >>= fun v5 => (atO z1 v5)) >>= fun v6 => (catO x_law_mine v6)) >>= fun x_law_mine => some x_law_mine) else some x_law_mine) >>= (fun (z3 : (List Int)) => (appO z1 z3 >>= fun x_law_above_here => some x_law_above_here)))))) v9 x_law_above_here >>= fun z8 => some z8)))
@[irreducible] def M.under (x_parents : (List (Option Int))) (x_one : (Option Int)) (x_other : Int) : Option Bool :=
  (whileC (fun (z1 : (Option Int)) => some ((z1.isSome && (!decide (z1 = (some x_other : (Option Int))))))) (fun (z1 : (Option Int)) => (((z1 >>= fun v3 => (atO x_parents v3)) >>= fun x_one => some (Ctl.nx x_one)) : Option (Ctl (Option Int) (Option Int) Bool))) 1000000 x_one >>= Ctl.seqT fun (z4 : (Option Int)) => some z4.isSome)
@[irreducible] def M.law (x_law_script : (List Int)) : Option Bool :=
  ((M.law_parents_by x_law_script) >>= fun x_law_parents => ((M.law_above x_law_parents) >>= fun x_law_above_here => (let x_law_handed : (List (Option Int)) := x_law_parents; ((rng1O (x_law_parents.length : Int)) >>= fun v9 => (loopC (fun (z1 : Unit) (x_law_one : Int) => (((rng1O (x_law_parents.length : Int)) >>= fun v7 => (loopC (fun (z2 : Unit) (x_law_other : Int) => (((M.under x_law_handed (some x_law_one : (Option Int)) x_law_other) >>= fun x_law_found => ((if (!true) = true then some true else (((atO x_law_above_here x_law_one) >>= fun v3 => some (decide (x_law_other ∈ v3))) >>= fun v4 => some (!decide (x_law_found = v4)))) >>= fun v5 => (if v5 = true then some (Ctl.rt false) else some (Ctl.nx ())))) : Option (Ctl Unit Unit Bool))) v7 () >>= Ctl.up fun (z6 : Unit) => some (Ctl.nx ()))) : Option (Ctl Unit Unit Bool))) v9 () >>= Ctl.seqT fun (z8 : Unit) => some (decide (x_law_handed = x_law_parents)))))))
structure Tx (K : PySem.W.Frag) (mg : Str → Option Value) where
  f_law_cell_at : Addr
  d_law_cell_at : FuncData
  F_law_cell_at : Fun K "_law_cell_at" "_law_cell_at" s_law_cell_at f_law_cell_at d_law_cell_at
  m_law_cell_at : mg "_law_cell_at" = some (.ref f_law_cell_at)
  k_law_cell_at : PySem.W.keepIn K (.ref f_law_cell_at) = true
  b_law_cell_at : Binds K d_law_cell_at ["_law_script", "_law_k"] []
  f_law_mix : Addr
  d_law_mix : FuncData
  F_law_mix : Fun K "_law_mix" "_law_mix" s_law_mix f_law_mix d_law_mix
  m_law_mix : mg "_law_mix" = some (.ref f_law_mix)
  k_law_mix : PySem.W.keepIn K (.ref f_law_mix) = true
  b_law_mix : Binds K d_law_mix ["_law_cell", "_law_factor", "_law_prime"] []
  f_law_parents_by : Addr
  d_law_parents_by : FuncData
  F_law_parents_by : Fun K "_law_parents_by" "_law_parents_by" s_law_parents_by f_law_parents_by d_law_parents_by
  m_law_parents_by : mg "_law_parents_by" = some (.ref f_law_parents_by)
  k_law_parents_by : PySem.W.keepIn K (.ref f_law_parents_by) = true
  b_law_parents_by : Binds K d_law_parents_by ["_law_script"] []
  f_law_above : Addr
  d_law_above : FuncData
  F_law_above : Fun K "_law_above" "_law_above" s_law_above f_law_above d_law_above
  m_law_above : mg "_law_above" = some (.ref f_law_above)
  k_law_above : PySem.W.keepIn K (.ref f_law_above) = true
  b_law_above : Binds K d_law_above ["_law_parents"] []
  f_under : Addr
  d_under : FuncData
  F_under : Fun K "under" "under" s_under f_under d_under
  m_under : mg "under" = some (.ref f_under)
  k_under : PySem.W.keepIn K (.ref f_under) = true
  b_under : Binds K d_under ["parents", "one", "other"] []
  f_law : Addr
  d_law : FuncData
  F_law : Fun K "law" "law" s_law f_law d_law
  m_law : mg "law" = some (.ref f_law)
  k_law : PySem.W.keepIn K (.ref f_law) = true
  b_law : Binds K d_law ["_law_script"] []
  g_bool : mg "bool" = none
  g_isinstance : mg "isinstance" = none
  g_len : mg "len" = none
  g_list : mg "list" = none
  g_max : mg "max" = none
  g_min : mg "min" = none
  g_range : mg "range" = none
section
variable {P : Program} {w : World} {K : PySem.W.Frag} {mg : Str → Option Value} {base : Heap}
theorem ok_law_cell_at (T : Tx K mg) : FnOk P w K mg base CX0 1 T.f_law_cell_at T.d_law_cell_at ["_law_script", "_law_k"] (spT (Gb.mk K mg) (fun p : (List Int) × Int × Unit => [.bw (rl (Gb.mk K mg) p.1), .im (Py.r (Gb.mk K mg) p.2.1)]) (fun p => M.law_cell_at p.1 p.2.1) (fun r => .im (Py.r (Gb.mk K mg) (r : Int)))) := by
  refine fn_mk T.F_law_cell_at sc_law_cell_at (fun _ => rfl) (fun _ => rfl) (by decide) (fun cdv A outer s H E I p hr => ?_)
  obtain ⟨x_law_script, x_law_k, ⟨⟩⟩ := p
  refine MB.eq (MB.p1 (mb_ift (mt_cm (MC.p1 (MC.p1 (mc_lt (me_var 1) (ME.p1 (me_len T.g_len (me_bor 0))))))) (mb_retT (ME.p1 (ME.p1 (me_ix (me_bor 0) (me_var 1))))) (mb_retT me_int) hk_t)) ?_
  delta M.law_cell_at
  rfl
theorem ok_law_mix (T : Tx K mg) : FnOk P w K mg base CX0 1 T.f_law_mix T.d_law_mix ["_law_cell", "_law_factor", "_law_prime"] (spT (Gb.mk K mg) (fun p : Int × Int × Int × Unit => [.im (Py.r (Gb.mk K mg) p.1), .im (Py.r (Gb.mk K mg) p.2.1), .im (Py.r (Gb.mk K mg) p.2.2.1)]) (fun p => M.law_mix p.1 p.2.1 p.2.2.1) (fun r => .im (Py.r (Gb.mk K mg) (r : Int)))) := by
  refine fn_mk T.F_law_mix sc_law_mix (fun _ => rfl) (fun _ => rfl) (by decide) (fun cdv A outer s H E I p hr => ?_)
  obtain ⟨x_law_cell, x_law_factor, x_law_prime, ⟨⟩⟩ := p
  refine MB.eq (mb_retT (ME.p2 (me_mod (ME.p1 (ME.p1 (me_mul (me_var 0) (me_var 1)))) (me_var 2)))) ?_
  delta M.law_mix
  rfl
theorem ok_law_parents_by (T : Tx K mg) : FnOk P w K mg base CX0 2 T.f_law_parents_by T.d_law_parents_by ["_law_script"] (spT (Gb.mk K mg) (fun p : (List Int) × Unit => [.bw (rl (Gb.mk K mg) p.1)]) (fun p => M.law_parents_by p.1) (fun r => .fr (rl (Gb.mk K mg) (r : (List (Option Int)))))) := by
  refine fn_mk T.F_law_parents_by sc_law_parents_by (fun _ => rfl) (fun _ => rfl) (by decide) (fun cdv A outer s H E I p hr => ?_)
  obtain ⟨x_law_script, ⟨⟩⟩ := p
  refine MB.eq (MB.p1 (mb_set 1 sc_law_parents_by.nd (me_lst (α := (Option Int)) ml_nil) (fun x_law_parents => mb_for (S' := (fun z1 : (List (Option Int)) => [some (.bw (rl (Gb.mk K mg) (x_law_script : (List Int)))), some (.fr (rl (Gb.mk K mg) (z1 : (List (Option Int))))), none, none])) (s0 := x_law_parents) PassesOwn.never (MI.p1 (mi_rng1 T.g_range (ME.p1 (ME.p1 (me_min T.g_min me_int (ME.p1 (ME.p1 (me_max T.g_max me_int (ME.p1 (me_len T.g_len (me_bor 0))))))))))) (mg_name 2 sc_law_parents_by.nd) (.keep (.keep (.keep (.keep .nil)))) (fun _ (z1 : (List (Option Int))) (x_law_k : Int) => mb_set 3 sc_law_parents_by.nd (me_call (ok_law_mix T) hr (by decide) T.m_law_mix T.k_law_mix T.b_law_mix .nil (ma_cons (args := fun p : Int × Int × Unit => [.im (Py.r (Gb.mk K mg) p.1), .im (Py.r (Gb.mk K mg) p.2.1)]) (me_call (ok_law_cell_at T) hr (by decide) T.m_law_cell_at T.k_law_cell_at T.b_law_cell_at .nil (MA.p1 (ma_cons (args := fun p : Int × Unit => [.im (Py.r (Gb.mk K mg) p.1)]) (me_bor 0) (co_bw lr_rd) (fun _ => (MA.p1 (ma_cons (args := fun p : Unit => []) (me_var 2) co_im (fun _ => ma_nl))))))) co_im (fun _ => (MA.p1 (ma_cons (args := fun p : Int × Unit => [.im (Py.r (Gb.mk K mg) p.1)]) me_int co_im (fun _ => (MA.p1 (ma_cons (args := fun p : Unit => []) me_int co_im (fun _ => ma_nl))))))))) (fun x_law_mixed => MB.p1 (mb_if (S' := (fun z3 : (List (Option Int)) => [some (.bw (rl (Gb.mk K mg) (x_law_script : (List Int)))), some (.fr (rl (Gb.mk K mg) (z3 : (List (Option Int))))), some (.im (Py.r (Gb.mk K mg) (x_law_k : Int))), some (.im (Py.r (Gb.mk K mg) (x_law_mixed : Int)))])) (mt_w (mw_orP (mt_cm (MC.p1 (MC.p1 (mc_eq (α := Int) hr.units (by decide) (me_var 2) me_int)))) (mw_or1 (mt_cm (MC.p1 (MC.p1 (mc_eq (α := Int) hr.units (by decide) (ME.p1 (me_modC (n := 4) (by decide) (me_var 3) me_int)) me_int))))))) (MB.p1 (mb_app 1 me_non (fun x_law_parents => mb_nil (b := x_law_parents) kx_n (.keep (.keep (.keep (.keep .nil))))))) (MB.p1 (mb_if (S' := (fun z4 : (List (Option Int)) => [some (.bw (rl (Gb.mk K mg) (x_law_script : (List Int)))), some (.fr (rl (Gb.mk K mg) (z4 : (List (Option Int))))), some (.im (Py.r (Gb.mk K mg) (x_law_k : Int))), some (.im (Py.r (Gb.mk K mg) (x_law_mixed : Int)))])) (mt_cm (MC.p1 (MC.p1 (mc_eq (α := Int) hr.units (by decide) (ME.p1 (me_modC (n := 2) (by decide) (me_var 3) me_int)) me_int)))) (MB.p1 (mb_app 1 (ME.p1 (me_some (ME.p1 (ME.p1 (me_sub (me_var 2) me_int))))) (fun x_law_parents => mb_nil (b := x_law_parents) kx_n (.keep (.keep (.keep (.keep .nil))))))) (mb_app 1 (me_some (ME.p1 (ME.p1 (me_mod (ME.p1 (me_divC (n := 4) (by decide) (me_var 3) me_int)) (me_var 2))))) (fun x_law_parents => mb_nil (b := x_law_parents) kx_n (.keep (.keep (.keep (.keep .nil)))))) (fun (z4 : (List (Option Int))) => mb_nil (b := z4) kx_n (.keep (.keep (.keep (.keep .nil))))))) (fun (z3 : (List (Option Int))) => mb_nil (b := z3) kx_n (.keep (.keep (.drop (.drop .nil)))))))) (fun (z7 : (List (Option Int))) => mb_retO 1 kr_t)))) ?_
  delta M.law_parents_by
  rfl
theorem ok_law_above (T : Tx K mg) : FnOk P w K mg base CX0 1 T.f_law_above T.d_law_above ["_law_parents"] (spT (Gb.mk K mg) (fun p : (List (Option Int)) × Unit => [.bw (rl (Gb.mk K mg) p.1)]) (fun p => M.law_above p.1) (fun r => .fr (rl (Gb.mk K mg) (r : (List (List Int)))))) := by
  refine fn_mk T.F_law_above sc_law_above (fun _ => rfl) (fun _ => rfl) (by decide) (fun cdv A outer s H E I p hr => ?_)
  obtain ⟨x_law_parents, ⟨⟩⟩ := p
  refine MB.eq (MB.p1 (mb_set 1 sc_law_above.nd (me_lst (α := (List Int)) ml_nil) (fun x_law_above_here => mb_for (S' := (fun z1 : (List (List Int)) => [some (.bw (rl (Gb.mk K mg) (x_law_parents : (List (Option Int))))), some (.fr (rl (Gb.mk K mg) (z1 : (List (List Int))))), none, none])) (s0 := x_law_above_here) PassesOwn.never (MI.p1 (mi_rng1 T.g_range (ME.p1 (me_len T.g_len (me_bor 0))))) (mg_name 2 sc_law_above.nd) (.keep (.keep (.keep (.keep .nil)))) (fun _ (z1 : (List (List Int))) (x_law_k : Int) => MB.p1 (mb_set 3 sc_law_above.nd (me_lst (α := Int) (ML.p1 (ML.p1 (ml_cons (me_var 2) ml_nil)))) (fun x_law_mine => mb_if (S' := (fun z3 : (List Int) => [some (.bw (rl (Gb.mk K mg) (x_law_parents : (List (Option Int))))), some (.fr (rl (Gb.mk K mg) (z1 : (List (List Int))))), some (.im (Py.r (Gb.mk K mg) (x_law_k : Int))), some (.fr (rl (Gb.mk K mg) (z3 : (List Int))))])) (mt_cm (mc_ntN (ME.p1 (ME.p1 (me_ix (me_bor 0) (me_var 2)))))) (mb_set 3 sc_law_above.nd (ME.p1 (me_cat (me_own 3) (ME.p1 (me_ix (me_own 1) (me_get (ME.p1 (ME.p1 (me_ix (me_bor 0) (me_var 2))))))))) (fun x_law_mine => mb_nil (b := x_law_mine) kx_n (.keep (.keep (.keep (.keep .nil)))))) (mb_nil (b := x_law_mine) kx_n (.keep (.keep (.keep (.keep .nil))))) (fun (z3 : (List Int)) => mb_frz 3 rfl (MB.p1 (mb_app 1 (me_var 3) (fun x_law_above_here => mb_nil (b := x_law_above_here) kx_n (.keep (.keep (.drop (.drop .nil))))))))))) (fun (z8 : (List (List Int))) => mb_retO 1 kr_t)))) ?_
  delta M.law_above
  rfl
theorem ok_under (T : Tx K mg) : FnOk P w K mg base CX0 1 T.f_under T.d_under ["parents", "one", "other"] (spT (Gb.mk K mg) (fun p : (List (Option Int)) × (Option Int) × Int × Unit => [.bw (rl (Gb.mk K mg) p.1), .im (Py.r (Gb.mk K mg) p.2.1), .im (Py.r (Gb.mk K mg) p.2.2.1)]) (fun p => M.under p.1 p.2.1 p.2.2.1) (fun r => .im (Py.r (Gb.mk K mg) (r : Bool)))) := by
  refine fn_mk T.F_under sc_under (fun _ => rfl) (fun _ => rfl) (by decide) (fun cdv A outer s H E I p hr => ?_)
  obtain ⟨x_parents, x_one, x_other, ⟨⟩⟩ := p
  refine MB.eq (mb_whileT 1000000 (S' := (fun z1 : (Option Int) => [some (.bw (rl (Gb.mk K mg) (x_parents : (List (Option Int))))), some (.im (Py.r (Gb.mk K mg) (z1 : (Option Int)))), some (.im (Py.r (Gb.mk K mg) (x_other : Int)))])) (s0 := x_one) (.keep (.keep (.keep .nil))) (fun (z1 : (Option Int)) => (mt_w (mw_andP (mt_cm (MC.p1 (mc_ntN (me_var 1)))) (mw_and1 (mt_cm (MC.p1 (MC.p1 (mc_ne (α := (Option Int)) hr.units (by decide) (me_var 1) (ME.p1 (me_some (me_var 2))))))))))) (fun (z1 : (Option Int)) => mb_set 1 sc_under.nd (ME.p1 (me_ix (me_bor 0) (ME.p1 (me_get (me_var 1))))) (fun x_one => mb_nil (b := x_one) kx_c (.keep (.keep (.keep .nil))))) (fun (z4 : (Option Int)) => mb_retT (me_cm (MC.p1 (mc_ntN (me_var 1)))))) ?_
  delta M.under
  rfl
theorem ok_law (T : Tx K mg) : FnOk P w K mg base CX0 3 T.f_law T.d_law ["_law_script"] (spT (Gb.mk K mg) (fun p : (List Int) × Unit => [.bw (rl (Gb.mk K mg) p.1)]) (fun p => M.law p.1) (fun r => .im (Py.r (Gb.mk K mg) (r : Bool)))) := by
  refine fn_mk T.F_law sc_law (fun _ => rfl) (fun _ => rfl) (by decide) (fun cdv A outer s H E I p hr => ?_)
  obtain ⟨x_law_script, ⟨⟩⟩ := p
  refine MB.eq (mb_set 1 sc_law.nd (me_call (ok_law_parents_by T) hr (by decide) T.m_law_parents_by T.k_law_parents_by T.b_law_parents_by .nil (MA.p1 (ma_cons (args := fun p : Unit => []) (me_bor 0) (co_bw lr_rd) (fun _ => ma_nl)))) (fun x_law_parents => mb_set 2 sc_law.nd (me_call (ok_law_above T) hr (by decide) T.m_law_above T.k_law_above T.b_law_above .nil (MA.p1 (ma_cons (args := fun p : Unit => []) (me_own 1) (co_bw lr_rd) (fun _ => ma_nl)))) (fun x_law_above_here => MB.p1 (mb_set 3 sc_law.nd (ME.p1 (me_list T.g_list (me_own 1))) (fun x_law_handed => mb_forT (S' := (fun z1 : Unit => [some (.bw (rl (Gb.mk K mg) (x_law_script : (List Int)))), some (.fr (rl (Gb.mk K mg) (x_law_parents : (List (Option Int))))), some (.fr (rl (Gb.mk K mg) (x_law_above_here : (List (List Int))))), some (.fr (rl (Gb.mk K mg) (x_law_handed : (List (Option Int))))), none, none, none])) (s0 := ()) (MI.p1 (mi_rng1 T.g_range (ME.p1 (me_len T.g_len (me_own 1))))) (mg_name 4 sc_law.nd) (.keep (.keep (.keep (.keep (.keep (.keep (.keep .nil))))))) (fun _ (z1 : Unit) (x_law_one : Int) => mb_forU (S' := (fun z2 : Unit => [some (.bw (rl (Gb.mk K mg) (x_law_script : (List Int)))), some (.fr (rl (Gb.mk K mg) (x_law_parents : (List (Option Int))))), some (.fr (rl (Gb.mk K mg) (x_law_above_here : (List (List Int))))), some (.fr (rl (Gb.mk K mg) (x_law_handed : (List (Option Int))))), some (.im (Py.r (Gb.mk K mg) (x_law_one : Int))), none, none])) (s0 := ()) (MI.p1 (mi_rng1 T.g_range (ME.p1 (me_len T.g_len (me_own 1))))) (mg_name 5 sc_law.nd) (.keep (.keep (.keep (.keep (.keep (.keep (.keep .nil))))))) (fun _ (z2 : Unit) (x_law_other : Int) => mb_set 6 sc_law.nd (me_call (ok_under T) hr (by decide) T.m_under T.k_under T.b_under .nil (MA.p1 (ma_cons (args := fun p : (Option Int) × Int × Unit => [.im (Py.r (Gb.mk K mg) p.1), .im (Py.r (Gb.mk K mg) p.2.1)]) (me_own 3) (co_bw lr_rd) (fun _ => (MA.p1 (ma_cons (args := fun p : Int × Unit => [.im (Py.r (Gb.mk K mg) p.1)]) (ME.p1 (me_some (me_var 4))) co_im (fun _ => (MA.p1 (ma_cons (args := fun p : Unit => []) (me_var 5) co_im (fun _ => ma_nl)))))))))) (fun x_law_found => mb_ift (mt_w (MW.p1 (mw_or (MT.p1 (mt_not (mt_val (ME.p1 (me_isi (b := true) (t := "bool") (Ty := "bool") T.g_isinstance T.g_bool (me_var 6) tr_im (by decide +kernel) (by decide +kernel)))))) (mw_or1 (mt_cm (MC.p1 (mc_ne (α := Bool) hr.units (by decide) (me_var 6) (me_cm (MC.p1 (mc_in (α := Int) hr.units (by decide) (me_var 5) (ME.p1 (ME.p1 (me_ix (me_own 2) (me_var 4)))))))))))))) (MB.p1 (mb_ret kr_c me_bl)) (mb_nil (b := ()) kx_c (.keep (.keep (.keep (.keep (.keep (.drop (.drop .nil)))))))) (hk_c (by repeat (first | exact nn_rt | exact nn_ct | exact nn_bk | refine nn_ite ?_ ?_ | refine nn_bind fun _ => ?_))))) (fun (z6 : Unit) => mb_nil (b := ()) kx_c (.keep (.keep (.keep (.keep (.drop (.keep (.keep .nil))))))))) (fun (z8 : Unit) => mb_retT (me_cm (MC.p1 (MC.p1 (mc_eq (α := (List (Option Int))) hr.units (by decide) (me_own 3) (me_own 1))))))))))) ?_
  delta M.law
  rfl
end
def lawsp (K : PySem.W.Frag) (mg : Str → Option Value) : Sp := spT (Gb.mk K mg) (fun p : (List Int) × Unit => [.bw (rl (Gb.mk K mg) p.1)]) (fun p => M.law p.1) (fun r => .im (Py.r (Gb.mk K mg) (r : Bool)))
theorem all_mk {l : PySem.W.OpenLaw} {w : World} {K : PySem.W.Frag} {h : Heap} {mg : Str → Option Value} {fa : Addr} (X : K.In h) (G : h.Ns mainGlobals mg) (hfa : mg "law" = some (.ref fa))
    {f_law_cell_at : Addr} {oc_law_cell_at kV_law_cell_at dc_law_cell_at pm_law_cell_at cd_law_cell_at ct_law_cell_at : Value} {od_law_cell_at an_law_cell_at : Option Addr} {sl_law_cell_at : Array (Option Value)}
    {f_law_mix : Addr} {oc_law_mix kV_law_mix dc_law_mix pm_law_mix cd_law_mix ct_law_mix : Value} {od_law_mix an_law_mix : Option Addr} {sl_law_mix : Array (Option Value)}
    {f_law_parents_by : Addr} {oc_law_parents_by kV_law_parents_by dc_law_parents_by pm_law_parents_by cd_law_parents_by ct_law_parents_by : Value} {od_law_parents_by an_law_parents_by : Option Addr} {sl_law_parents_by : Array (Option Value)}
    {f_law_above : Addr} {oc_law_above kV_law_above dc_law_above pm_law_above cd_law_above ct_law_above : Value} {od_law_above an_law_above : Option Addr} {sl_law_above : Array (Option Value)}
    {f_under : Addr} {oc_under kV_under dc_under pm_under cd_under ct_under : Value} {od_under an_under : Option Addr} {sl_under : Array (Option Value)}
    {f_law : Addr} {oc_law kV_law dc_law pm_law cd_law ct_law : Value} {od_law an_law : Option Addr} {sl_law : Array (Option Value)}
    (a_law_cell_at : PySem.W.nsIn K mainGlobals "_law_cell_at" = some (some (.ref f_law_cell_at))) (l_law_cell_at : K.lookup f_law_cell_at = some ⟨oc_law_cell_at, od_law_cell_at, .func (PySem.W.fnOf "_law_cell_at" "_law_cell_at" (defArgs s_law_cell_at) (defBody s_law_cell_at) (defScope s_law_cell_at) .none kV_law_cell_at dc_law_cell_at pm_law_cell_at an_law_cell_at cd_law_cell_at ct_law_cell_at), sl_law_cell_at⟩) (c_law_cell_at : PySem.W.codeIn K cd_law_cell_at "_law_cell_at" = true) (k_law_cell_at : PySem.W.keepIn K (.ref f_law_cell_at) = true)
    (a_law_mix : PySem.W.nsIn K mainGlobals "_law_mix" = some (some (.ref f_law_mix))) (l_law_mix : K.lookup f_law_mix = some ⟨oc_law_mix, od_law_mix, .func (PySem.W.fnOf "_law_mix" "_law_mix" (defArgs s_law_mix) (defBody s_law_mix) (defScope s_law_mix) .none kV_law_mix dc_law_mix pm_law_mix an_law_mix cd_law_mix ct_law_mix), sl_law_mix⟩) (c_law_mix : PySem.W.codeIn K cd_law_mix "_law_mix" = true) (k_law_mix : PySem.W.keepIn K (.ref f_law_mix) = true)
    (a_law_parents_by : PySem.W.nsIn K mainGlobals "_law_parents_by" = some (some (.ref f_law_parents_by))) (l_law_parents_by : K.lookup f_law_parents_by = some ⟨oc_law_parents_by, od_law_parents_by, .func (PySem.W.fnOf "_law_parents_by" "_law_parents_by" (defArgs s_law_parents_by) (defBody s_law_parents_by) (defScope s_law_parents_by) .none kV_law_parents_by dc_law_parents_by pm_law_parents_by an_law_parents_by cd_law_parents_by ct_law_parents_by), sl_law_parents_by⟩) (c_law_parents_by : PySem.W.codeIn K cd_law_parents_by "_law_parents_by" = true) (k_law_parents_by : PySem.W.keepIn K (.ref f_law_parents_by) = true)
    (a_law_above : PySem.W.nsIn K mainGlobals "_law_above" = some (some (.ref f_law_above))) (l_law_above : K.lookup f_law_above = some ⟨oc_law_above, od_law_above, .func (PySem.W.fnOf "_law_above" "_law_above" (defArgs s_law_above) (defBody s_law_above) (defScope s_law_above) .none kV_law_above dc_law_above pm_law_above an_law_above cd_law_above ct_law_above), sl_law_above⟩) (c_law_above : PySem.W.codeIn K cd_law_above "_law_above" = true) (k_law_above : PySem.W.keepIn K (.ref f_law_above) = true)
    (a_under : PySem.W.nsIn K mainGlobals "under" = some (some (.ref f_under))) (l_under : K.lookup f_under = some ⟨oc_under, od_under, .func (PySem.W.fnOf "under" "under" (defArgs s_under) (defBody s_under) (defScope s_under) .none kV_under dc_under pm_under an_under cd_under ct_under), sl_under⟩) (c_under : PySem.W.codeIn K cd_under "under" = true) (k_under : PySem.W.keepIn K (.ref f_under) = true)
    (a_law : PySem.W.nsIn K mainGlobals "law" = some (some (.ref f_law))) (l_law : K.lookup f_law = some ⟨oc_law, od_law, .func (PySem.W.fnOf "law" "law" (defArgs s_law) (defBody s_law) (defScope s_law) .none kV_law dc_law pm_law an_law cd_law ct_law), sl_law⟩) (c_law : PySem.W.codeIn K cd_law "law" = true) (k_law : PySem.W.keepIn K (.ref f_law) = true)
    (z_bool : PySem.W.nsIn K mainGlobals "bool" = some none)
    (z_isinstance : PySem.W.nsIn K mainGlobals "isinstance" = some none)
    (z_len : PySem.W.nsIn K mainGlobals "len" = some none)
    (z_list : PySem.W.nsIn K mainGlobals "list" = some none)
    (z_max : PySem.W.nsIn K mainGlobals "max" = some none)
    (z_min : PySem.W.nsIn K mainGlobals "min" = some none)
    (z_range : PySem.W.nsIn K mainGlobals "range" = some none) :
    ∃ fd : FuncData, (∀ (s : Shared) (v : Value), BindsTo s fd ⟨[v], []⟩ [("_law_script", v)]) ∧ ∀ base : Heap, K.In base → base.Ns mainGlobals mg → FnOk l.prog w K mg base CX0 3 fa fd ["_law_script"] (lawsp K mg) := by
  have e := hfa.symm.trans (PySem.W.mg_of X G a_law)
  cases e
  have F_law_cell_at := fun_mk (st := s_law_cell_at) l_law_cell_at c_law_cell_at k_law_cell_at
  have F_law_mix := fun_mk (st := s_law_mix) l_law_mix c_law_mix k_law_mix
  have F_law_parents_by := fun_mk (st := s_law_parents_by) l_law_parents_by c_law_parents_by k_law_parents_by
  have F_law_above := fun_mk (st := s_law_above) l_law_above c_law_above k_law_above
  have F_under := fun_mk (st := s_under) l_under c_under k_under
  have F_law := fun_mk (st := s_law) l_law c_law k_law
  exact ⟨_, fun s v => .of_eq rfl, fun base _ _ => ok_law ⟨_, _, F_law_cell_at, PySem.W.mg_of X G a_law_cell_at, k_law_cell_at, (F_law_cell_at.binds (ps := ["_law_script", "_law_k"]) fun _ _ _ _ _ _ us hl => match us, hl with | [_, _], _ => rfl), _, _, F_law_mix, PySem.W.mg_of X G a_law_mix, k_law_mix, (F_law_mix.binds (ps := ["_law_cell", "_law_factor", "_law_prime"]) fun _ _ _ _ _ _ us hl => match us, hl with | [_, _, _], _ => rfl), _, _, F_law_parents_by, PySem.W.mg_of X G a_law_parents_by, k_law_parents_by, (F_law_parents_by.binds (ps := ["_law_script"]) fun _ _ _ _ _ _ us hl => match us, hl with | [_], _ => rfl), _, _, F_law_above, PySem.W.mg_of X G a_law_above, k_law_above, (F_law_above.binds (ps := ["_law_parents"]) fun _ _ _ _ _ _ us hl => match us, hl with | [_], _ => rfl), _, _, F_under, PySem.W.mg_of X G a_under, k_under, (F_under.binds (ps := ["parents", "one", "other"]) fun _ _ _ _ _ _ us hl => match us, hl with | [_, _, _], _ => rfl), _, _, F_law, PySem.W.mg_of X G a_law, k_law, (F_law.binds (ps := ["_law_script"]) fun _ _ _ _ _ _ us hl => match us, hl with | [_], _ => rfl), PySem.W.mg_none_of X G z_bool, PySem.W.mg_none_of X G z_isinstance, PySem.W.mg_none_of X G z_len, PySem.W.mg_none_of X G z_list, PySem.W.mg_none_of X G z_max, PySem.W.mg_none_of X G z_min, PySem.W.mg_none_of X G z_range⟩⟩
end Law
namespace Law
open PySem T L2
theorem mix_ok (c f p : Int) (hf : -(2 ^ 64) < f) (hf2 : f < 2 ^ 64) (hp : 0 < p) : M.law_mix c f p = some (c * f % p) := by
  unfold M.law_mix
  rw [mulO_r hf hf2, bindP, modO_ok hp]
end Law
namespace Law
open PySem T L2
theorem cell_ok (ns : List Int) {k : Int} (h : 0 ≤ k) : ∃ r, M.law_cell_at ns k = some r := by
  unfold M.law_cell_at
  by_cases hk : k < (ns.length : Int)
  · rw [if_pos (decide_eq_true hk), atO_get h hk]; exact ⟨_, rfl⟩
  · exact ⟨_, if_neg (by rw [decide_eq_true_eq]; exact hk)⟩
end Law
namespace Law
open PySem T L2
/-! kinds in trees: each parent stands ahead -/
def Wf (ps : List (Option Int)) : Prop := ∀ (k : Nat) (j : Int), ps[k]? = some (some j) → 0 ≤ j ∧ j < k
def chain (ps : List (Option Int)) : Nat → Int → List Int
  | 0, k => [k]
  | n + 1, k => k :: (match ps[k.toNat]? with
    | some (some j) => chain ps n j
    | _ => [])
/-- a kind and all above it -/
def ups (ps : List (Option Int)) (k : Int) : List Int := chain ps k.toNat k
theorem chain_zero {ps : List (Option Int)} (w : Wf ps) {k : Int} (h : k = 0) (n : Nat) : chain ps n k = [k] := by
  cases n with
  | zero => rfl
  | succ n =>
    show k :: _ = [k]
    have e : k.toNat = 0 := by omega
    rw [e]
    cases q : ps[0]? with
    | none => rfl
    | some o =>
      cases o with
      | none => rfl
      | some j => have := w 0 j q; omega
theorem chain_fuel {ps : List (Option Int)} (w : Wf ps) : ∀ (n : Nat) (k : Int), 0 ≤ k → k.toNat ≤ n → chain ps n k = chain ps k.toNat k
  | 0, k, h0, h => by
    have e : k.toNat = 0 := by omega
    rw [e]
  | n + 1, k, h0, h => by
    by_cases hk : k = 0
    · rw [chain_zero w hk, chain_zero w hk]
    · obtain ⟨m, hm⟩ : ∃ m, k.toNat = m + 1 := ⟨k.toNat - 1, by omega⟩
      rw [hm]
      show k :: _ = k :: _
      congr 1
      cases q : ps[k.toNat]? with
      | none => rfl
      | some o =>
        cases o with
        | none => rfl
        | some j =>
          have := w _ j q
          show chain ps n j = chain ps m j
          rw [chain_fuel w n j (by omega) (by omega), chain_fuel w m j (by omega) (by omega)]
theorem ups_eq {ps : List (Option Int)} (w : Wf ps) {k : Int} (h : 0 ≤ k) : ups ps k = k :: (match ps[k.toNat]? with
    | some (some j) => ups ps j
    | _ => []) := by
  by_cases hk : k = 0
  · unfold ups
    rw [chain_zero w hk]
    have e : k.toNat = 0 := by omega
    rw [e]
    cases q : ps[0]? with
    | none => rfl
    | some o =>
      cases o with
      | none => rfl
      | some j => have := w 0 j q; omega
  · obtain ⟨m, hm⟩ : ∃ m, k.toNat = m + 1 := ⟨k.toNat - 1, by omega⟩
    show chain ps k.toNat k = _
    rw [hm]
    show k :: (match ps[k.toNat]? with
      | some (some j) => chain ps m j
      | _ => []) = _
    rw [← hm]
    congr 1
    cases q : ps[k.toNat]? with
    | none => rfl
    | some o =>
      cases o with
      | none => rfl
      | some j =>
        have := w _ j q
        exact chain_fuel w m j (by omega) (by omega)
theorem ups_self (ps : List (Option Int)) (k : Int) : k ∈ ups ps k := by
  unfold ups
  cases k.toNat with
  | zero => exact List.mem_cons_self
  | succ n => exact List.mem_cons_self
theorem ups_le {ps : List (Option Int)} (w : Wf ps) : ∀ (n : Nat) (k : Int), 0 ≤ k → k.toNat ≤ n → ∀ j ∈ ups ps k, 0 ≤ j ∧ j ≤ k := by
  intro n
  induction n with
  | zero =>
    intro k h0 h j hj
    have e : k = 0 := by omega
    unfold ups at hj
    rw [chain_zero w e, List.mem_singleton] at hj
    omega
  | succ n ih =>
    intro k h0 h j hj
    rw [ups_eq w h0] at hj
    rcases List.mem_cons.mp hj with z | z
    · omega
    · cases q : ps[k.toNat]? with
      | none => rw [q] at z; cases z
      | some o =>
        rw [q] at z
        cases o with
        | none => cases z
        | some i =>
          have := w _ i q
          have := ih i (by omega) (by omega) j z
          omega
theorem ups_lt {ps : List (Option Int)} (w : Wf ps) {k j : Int} (h0 : 0 ≤ k) (h : j ∈ ups ps k) (hne : j ≠ k) : 0 ≤ j ∧ j < k := by
  have := ups_le w k.toNat k h0 (Nat.le_refl _) j h
  omega
theorem ups_trans {ps : List (Option Int)} (w : Wf ps) : ∀ (n : Nat) (a b c : Int), 0 ≤ a → a.toNat ≤ n → b ∈ ups ps a → c ∈ ups ps b → c ∈ ups ps a := by
  intro n
  induction n with
  | zero =>
    intro a b c h0 h hb hc
    have := ups_le w _ a h0 (Nat.le_refl _) b hb
    have e : b = a := by omega
    rw [e] at hc; exact hc
  | succ n ih =>
    intro a b c h0 h hb hc
    rw [ups_eq w h0] at hb ⊢
    rcases List.mem_cons.mp hb with z | z
    · rw [z, ups_eq w h0] at hc; exact hc
    · cases q : ps[a.toNat]? with
      | none => rw [q] at z; cases z
      | some o =>
        rw [q] at z
        cases o with
        | none => cases z
        | some i =>
          have := w _ i q
          exact List.mem_cons_of_mem _ (ih i b c (by omega) (by omega) z hc)
/-- the walk up -/
theorem while_up {ps : List (Option Int)} (w : Wf ps) (other : Int) {ρ : Type} {cm : Option Int → Option Bool} {fb : Option Int → Option (Ctl (Option Int) (Option Int) ρ)}
    (hc : ∀ z, cm z = some (z.isSome && !decide (z = (some other : Option Int)))) (hf : ∀ z, fb z = ((z >>= fun v => atO ps v) >>= fun x => some (Ctl.nx x))) :
    ∀ (n : Nat) (k : Int), 0 ≤ k → k < ps.length → k.toNat ≤ n → ∀ N, n + 2 ≤ N → whileC cm fb N (some k) = some (.nx (if other ∈ ups ps k then some other else none)) := by
  intro n
  induction n with
  | zero =>
    intro k h0 hl h N hN
    have e : k = 0 := by omega
    obtain ⟨N', rfl⟩ : ∃ N', N = N' + 2 := ⟨N - 2, by omega⟩
    have hu : ups ps k = [k] := by unfold ups; rw [chain_zero w e]
    rw [hu]
    unfold whileC
    rw [hc, bindP]
    by_cases hk : k = other
    · subst hk
      simp
    · rw [if_pos (by simp [hk]), hf, bindP, atO_get h0 hl, bindP, bindP]
      have hz : ps[k.toNat]'(by omega) = none := by
        have e0 : k.toNat = 0 := by omega
        cases q : ps[k.toNat]'(by omega) with
        | none => rfl
        | some j =>
          have := w k.toNat j (by rw [List.getElem?_eq_getElem (by omega), q])
          omega
      rw [hz]
      show whileC cm fb (N' + 1) none = _
      unfold whileC
      rw [hc, bindP, if_neg (by simp), if_neg (by simp; omega)]
  | succ n ih =>
    intro k h0 hl h N hN
    obtain ⟨N', rfl⟩ : ∃ N', N = N' + 1 := ⟨N - 1, by omega⟩
    rw [ups_eq w h0]
    unfold whileC
    rw [hc, bindP]
    by_cases hk : k = other
    · subst hk
      simp
    · rw [if_pos (by simp [hk]), hf, bindP, atO_get h0 hl, bindP, bindP, List.getElem?_eq_getElem (show k.toNat < ps.length by omega)]
      cases q : ps[k.toNat]'(by omega) with
      | none =>
        show whileC cm fb N' none = _
        obtain ⟨N2, rfl⟩ : ∃ N2, N' = N2 + 1 := ⟨N' - 1, by omega⟩
        unfold whileC
        rw [hc, bindP, if_neg (by simp), if_neg (by simp; omega)]
      | some j =>
        have := w k.toNat j (by rw [List.getElem?_eq_getElem (by omega), q])
        show whileC cm fb N' (some j) = _
        rw [ih j (by omega) (by omega) (by omega) N' (by omega)]
        have e : (other ∈ k :: ups ps j) ↔ (other ∈ ups ps j) := by
          rw [List.mem_cons]
          exact ⟨fun z => z.resolve_left (fun y => hk y.symm), .inr⟩
        simp only [e]
theorem under_ok {ps : List (Option Int)} (w : Wf ps) {k other : Int} (h0 : 0 ≤ k) (hl : k < ps.length) (hm : ps.length ≤ 1000) : M.under ps (some k) other = some (decide (other ∈ ups ps k)) := by
  unfold M.under
  rw [while_up w other (fun _ => rfl) (fun _ => rfl) k.toNat k h0 hl (Nat.le_refl _) 1000000 (by omega), bindP]
  show some _ = some _
  by_cases h : other ∈ ups ps k
  · rw [if_pos h, decide_eq_true h]; rfl
  · rw [if_neg h, decide_eq_false h]; rfl
end Law
-- uses: C_mix C_cell C_tree
namespace Law
open PySem T L2
theorem parents_ok (ns : List Int) : ∃ ps, M.law_parents_by ns = some ps ∧ Wf ps ∧ ps.length ≤ 20 := by
  unfold M.law_parents_by
  rw [rng1O_ok (by omega) (by omega)]
  obtain ⟨ps, e, h1, h2⟩ := loopN_ind (as := rng 0 (min 20 (max 1 (ns.length : Int))).toNat) (s0 := []) (f := fun (z1 : (List (Option Int))) (x_law_k : Int) => (((M.law_cell_at ns x_law_k) >>= fun v2 => M.law_mix v2 (48271 : Int) (2147483647 : Int)) >>= fun x_law_mixed => ((if ((decide (x_law_k = (0 : Int))) || (decide ((x_law_mixed % (4 : Int)) = (0 : Int)))) = true then (appO z1 (none : (Option Int)) >>= fun x_law_parents => some x_law_parents) else ((if (decide ((x_law_mixed % (2 : Int)) = (1 : Int))) = true then (appO z1 (some (x_law_k - (1 : Int)) : (Option Int)) >>= fun x_law_parents => some x_law_parents) else (((modO (x_law_mixed / (4 : Int)) x_law_k) >>= fun v5 => some ((some v5 : (Option Int)))) >>= fun v6 => (appO z1 v6 >>= fun x_law_parents => some x_law_parents))) >>= (fun (z4 : (List (Option Int))) => some z4))) >>= (fun (z3 : (List (Option Int))) => some z3))))
    (fun pre ps => Wf ps ∧ ps.length = pre.length) ⟨fun k j h => by simp at h, rfl⟩ (fun pre k post ps e ⟨w, l⟩ => by
      obtain ⟨hk, hlt⟩ := rng_at e
      have hk0 : k = (ps.length : Int) := by omega
      have lim : ps.length < 16777216 := by omega
      obtain ⟨c, e1⟩ := cell_ok ns (k := k) (by omega)
      rw [e1, bindP, mix_ok _ _ _ (by decide) (by decide) (by decide), bindP]
      have put : ∀ o : Option Int, (∀ j, o = some j → 0 ≤ j ∧ j < k) → Wf (ps ++ [o]) ∧ (ps ++ [o]).length = (pre ++ [k]).length := fun o ho => by
        refine ⟨fun i j h => ?_, by simp [l]⟩
        by_cases hi : i < ps.length
        · rw [List.getElem?_append_left hi] at h
          exact w i j h
        · have : i < (ps ++ [o]).length := (List.getElem?_eq_some_iff.mp h).1
          rw [List.length_append, List.length_singleton] at this
          have hi2 : i = ps.length := by omega
          subst hi2
          rw [List.getElem?_append_right (Nat.le_refl _), Nat.sub_self] at h
          have := ho j (Option.some.inj h)
          omega
      by_cases h1 : (decide (k = 0) || decide (c * 48271 % 2147483647 % 4 = 0)) = true
      · rw [if_pos h1, appO_ok lim, bindP, bindP]
        exact ⟨_, rfl, put none fun j z => by cases z⟩
      · rw [if_neg h1]
        have hkp : 0 < k := by
          rw [Bool.or_eq_true, decide_eq_true_eq] at h1
          omega
        by_cases h2 : c * 48271 % 2147483647 % 2 = 1
        · rw [if_pos (decide_eq_true h2), appO_ok lim, bindP, bindP, bindP]
          exact ⟨_, rfl, put _ fun j z => by cases z; omega⟩
        · rw [if_neg (by rw [decide_eq_true_eq]; exact h2), modO_ok hkp, bindP, bindP, appO_ok lim, bindP, bindP, bindP]
          refine ⟨_, rfl, put _ fun j z => ?_⟩
          cases z
          exact ⟨Int.emod_nonneg _ (by omega), Int.emod_lt_of_pos _ hkp⟩)
  refine ⟨ps, ?_, h1, ?_⟩
  · show (loopN _ _ [] >>= _) = _
    rw [e, bindP]
  · rw [h2, rng_len]; omega
theorem above_ok (ps : List (Option Int)) (w : Wf ps) (hl : ps.length ≤ 20) : ∃ A, M.law_above ps = some A ∧ A.length = ps.length ∧ ∀ k : Nat, k < ps.length → A[k]? = some (ups ps k) := by
  unfold M.law_above
  rw [rng1O_ok (by omega) (by omega)]
  obtain ⟨A, e, h1, h2⟩ := loopN_ind (as := rng 0 (ps.length : Int).toNat) (s0 := []) (f := fun (z1 : (List (List Int))) (x_law_k : Int) => (let x_law_mine : (List Int) := (x_law_k :: ([] : (List Int))); (((atO ps x_law_k) >>= fun v2 => some (v2.isSome)) >>= fun v7 => ((if v7 = true then (((((atO ps x_law_k) >>= fun v4 => v4) >>= fun v5 => (atO z1 v5)) >>= fun v6 => (catO x_law_mine v6)) >>= fun x_law_mine => some x_law_mine) else some x_law_mine) >>= (fun (z3 : (List Int)) => (appO z1 z3 >>= fun x_law_above_here => some x_law_above_here))))))
    (fun pre A => A.length = pre.length ∧ ∀ k : Nat, k < A.length → A[k]? = some (ups ps k)) ⟨rfl, fun k h => by simp at h⟩ (fun pre k post A e ⟨l, h⟩ => by
      obtain ⟨hk, hlt⟩ := rng_at e
      have hk0 : k = (A.length : Int) := by omega
      have hkl : k < ps.length := by omega
      have lim : A.length < 16777216 := by omega
      have put : ∃ s', appO A (ups ps k) = some s' ∧ s'.length = (pre ++ [k]).length ∧ ∀ k : Nat, k < s'.length → s'[k]? = some (ups ps k) := by
        refine ⟨_, appO_ok lim, by simp [l], fun i hi => ?_⟩
        by_cases hi2 : i < A.length
        · rw [List.getElem?_append_left hi2]; exact h i hi2
        · rw [List.length_append, List.length_singleton] at hi
          have hi3 : i = A.length := by omega
          subst hi3
          rw [List.getElem?_append_right (Nat.le_refl _), Nat.sub_self, hk0]; rfl
      obtain ⟨s', e1, e2⟩ := put
      have hu := ups_eq w (k := k) (by omega)
      rw [List.getElem?_eq_getElem (show k.toNat < ps.length by omega)] at hu
      show ∃ s', (((atO ps k) >>= fun v2 => some (v2.isSome)) >>= fun v7 => ((if v7 = true then (((((atO ps k) >>= fun v4 => v4) >>= fun v5 => (atO A v5)) >>= fun v6 => (catO [k] v6)) >>= fun x_law_mine => some x_law_mine) else some [k]) >>= (fun (z3 : (List Int)) => (appO A z3 >>= fun x_law_above_here => some x_law_above_here)))) = some s' ∧ _
      rw [atO_get (show 0 ≤ k by omega) hkl, bindP, bindP]
      cases q : ps[k.toNat]'(by omega) with
      | none =>
        rw [q] at hu
        rw [if_neg (by simp), bindP]
        refine ⟨s', ?_, e2⟩
        have e3 : [k] = ups ps k := hu.symm
        rw [e3, e1, bindP]
      | some j =>
        rw [q] at hu
        have hj := w k.toNat j (by rw [List.getElem?_eq_getElem (by omega), q])
        have hA : atO A j = some (ups ps j) := atO_ok hj.1 (by rw [h j.toNat (by omega)]; congr 2; omega)
        have hlen : (ups ps j).length ≤ 1000 := by
          have : ∀ (n : Nat) (i : Int), (chain ps n i).length ≤ n + 1 := by
            intro n
            induction n with
            | zero => intro i; exact Nat.le_refl _
            | succ n ih =>
              intro i
              show (_ :: _).length ≤ _
              rw [List.length_cons]
              cases ps[i.toNat]? with
              | none => simp
              | some o =>
                cases o with
                | none => simp
                | some i => have := ih i; simp; omega
          have := this j.toNat j
          unfold ups; omega
        rw [if_pos (show (some j).isSome = true from rfl), bindP, bindP, hA, bindP, catO_ok (by rw [List.length_singleton]; omega), bindP, bindP]
        refine ⟨s', ?_, e2⟩
        have e3 : [k] ++ ups ps j = ups ps k := hu.symm
        rw [e3, e1, bindP])
  refine ⟨A, ?_, ?_, fun k hk => h2 k ?_⟩
  · show (loopN _ _ [] >>= _) = _
    rw [e, bindP]
  · rw [h1, rng_len]; omega
  · rw [h1, rng_len]; omega
theorem law_true (ns : List Int) (h : ns.length ≤ 63) : M.law ns = some true := by
  unfold M.law
  obtain ⟨ps, e1, w, hl⟩ := parents_ok ns
  obtain ⟨A, e2, l2, hA⟩ := above_ok ps w hl
  rw [e1, bindP, e2, bindP, rng1O_ok (by omega) (by omega)]
  show (some _ >>= _) = _
  rw [bindP, loopC_unit, bindP]
  · show some _ = _
    rw [decide_eq_true rfl]
  intro one h1
  left
  obtain ⟨a0, a1⟩ := rng_mem h1
  rw [bindP, loopC_unit, bindP]
  · rfl
  intro other h2
  left
  rw [under_ok w a0 (by omega) (by omega), bindP, if_neg (by decide), atO_ok a0 (hA one.toNat (by omega)), bindP, bindP]
  have e3 : ((one.toNat : Nat) : Int) = one := by omega
  rw [e3, bindP, if_neg (by simp)]
end Law
set_option Elab.async false
set_option linter.all false
set_option maxRecDepth 100000
set_option maxHeartbeats 4000000
namespace Law
open PySem PySem.Spec PyProof.Rows L2 T
theorem all_fin {P : Program} {w : World} {K : PySem.W.Frag} {mg : Str → Option Value} {fa : Addr} (h : ∃ fd : FuncData, (∀ (s : Shared) (v : Value), BindsTo s fd ⟨[v], []⟩ [("_law_script", v)]) ∧ ∀ base : Heap, K.In base → base.Ns mainGlobals mg → FnOk P w K mg base CX0 3 fa fd ["_law_script"] (lawsp K mg)) :
    ∃ fd : FuncData, (∀ (s : Shared) (v : Value), BindsTo s fd ⟨[v], []⟩ [("_law_script", v)]) ∧ ∀ base : Heap, K.In base → base.Ns mainGlobals mg → FnOk P w K mg base CX0 3 fa fd ["_law_script"] (T.spL K) := by
  obtain ⟨fd, h1, h2⟩ := h
  exact ⟨fd, h1, fun base a b => T.fin_bw law_true (h2 base a b)⟩
theorem walk {l : PySem.W.OpenLaw} {q : Program} {loose : List Str} {XP : (Str → Option Value) → Heap → Prop} {YP : World → Heap → Prop} {d : DefRec} {K : Params → PySem.W.Frag} (hn : l.most = some 63) (hdf : d.params.defaults = [])
    (hY : ∀ (w : World) (h : Heap), YP w h → (K w.params).In h)
    (F : ∀ (w : World) (mg : Str → Option Value) (fa : Addr) (h : Heap), (K w.params).In h → h.Ns mainGlobals mg → mg d.name = some (.ref fa) →
      ∃ fd : FuncData, (∀ (s : Shared) (u : Value), BindsTo s fd ⟨[u], []⟩ [("_law_script", u)]) ∧ ∀ base : Heap, (K w.params).In base → base.Ns mainGlobals mg → FnOk l.prog w (K w.params) mg base CX0 3 fa fd ["_law_script"] (T.spL (K w.params))) :
    PySem.W.WalkO q loose XP YP l.row.toRowW d [] (fun f vs => PySem.call f vs) :=
  L2.walk_of (n := 63) (k := 3) (x := "_law_script") (CX := fun _ => CX0) (sp := fun w => T.spL (K w.params)) hn (by decide) hdf ⟨rfl, by decide, by decide⟩ hY F (fun _ _ a ns hl _ hS => ⟨a, ns, rfl, hS, hl, fun _ => rfl⟩) fun _ _ _ _ _ z => z
end Law
open PySem PySem.W PyProof.Rows
set_option maxRecDepth 100000 in
set_option maxHeartbeats 0 in
theorem PySem.Challenge.cw_voucherstack_k03_kinds_under_kinds_holds : PySem.Challenge.rw_voucherstack_k03_kinds_under_kinds.Holds := by
  w_on; o_law; k_head; (case hw => w_witness2)
  k_fill
  refine Law.walk (l := PySem.Challenge.rw_voucherstack_k03_kinds_under_kinds) rfl rfl (fun w h Y => PySem.W.kIn_of Y) ?F
  case F =>
    intro w mg fa h KX G hmg
    refine' Law.all_fin (Law.all_mk (l := PySem.Challenge.rw_voucherstack_k03_kinds_under_kinds) KX G hmg ?a_law_cell_at ?l_law_cell_at ?c_law_cell_at ?k_law_cell_at ?a_law_mix ?l_law_mix ?c_law_mix ?k_law_mix ?a_law_parents_by ?l_law_parents_by ?c_law_parents_by ?k_law_parents_by ?a_law_above ?l_law_above ?c_law_above ?k_law_above ?a_under ?l_under ?c_under ?k_under ?a_law ?l_law ?c_law ?k_law ?z_bool ?z_isinstance ?z_len ?z_list ?z_max ?z_min ?z_range)
    (case a_law_cell_at => k_is); (case l_law_cell_at => k_is); (case c_law_cell_at => k_is); (case k_law_cell_at => k_is); (case a_law_mix => k_is); (case l_law_mix => k_is)
    (case c_law_mix => k_is); (case k_law_mix => k_is); (case a_law_parents_by => k_is); (case l_law_parents_by => k_is); (case c_law_parents_by => k_is); (case k_law_parents_by => k_is)
    (case a_law_above => k_is); (case l_law_above => k_is); (case c_law_above => k_is); (case k_law_above => k_is); (case a_under => k_is); (case l_under => k_is)
    (case c_under => k_is); (case k_under => k_is); (case a_law => k_is); (case l_law => k_is); (case c_law => k_is); (case k_law => k_is)
    (case z_bool => k_is); (case z_isinstance => k_is); (case z_len => k_is); (case z_list => k_is); (case z_max => k_is); (case z_min => k_is)
    (case z_range => k_is)
