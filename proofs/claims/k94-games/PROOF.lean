import PyProof.Rows.All
import Wide.All
import OpenK.AllK
import Wide.FinOn
import HandS.ForMost
import HandS.Exc
import HandS.TryOnly
import HandS.ExcOwn
import HandS.WordsExc
import HandS.IsInst
import HandS.Sort
import HandS.ExcIs
import PySem.Challenge.RW_pinsalone_k94_games
set_option Elab.async false
set_option linter.all false
set_option maxRecDepth 100000
set_option maxHeartbeats 4000000
/-! Mirrors: results, representations, evaluation judgements -/
namespace Mw
open PySem L2

/-! ### results -/
inductive Res (α : Type) where
  | ok (a : α) | exc (c : Nat) (fs : List (Str × V)) | stuck
namespace Res
variable {α β γ : Type}
def bind : Res α → (α → Res β) → Res β
  | .ok a, f => f a
  | .exc c fs, _ => .exc c fs
  | .stuck, _ => .stuck
@[simp] theorem bind_ok (a : α) (f : α → Res β) : (Res.ok a).bind f = f a := rfl
@[simp] theorem bind_exc (c fs) (f : α → Res β) : (Res.exc c fs : Res α).bind f = .exc c fs := rfl
@[simp] theorem bind_stuck (f : α → Res β) : (Res.stuck : Res α).bind f = .stuck := rfl
def wp (m : Res α) (Q : α → Prop) (E : Nat → List (Str × V) → Prop) : Prop :=
  match m with
  | .ok a => Q a
  | .exc c fs => E c fs
  | .stuck => False
theorem wp_bind {m : Res α} {f : α → Res β} {Q E} (h : (m.bind f).wp Q E) : m.wp (fun a => (f a).wp Q E) E := by
  cases m <;> exact h
theorem wp_mono {m : Res α} {Q Q' : α → Prop} {E E' : Nat → List (Str × V) → Prop} (h : m.wp Q E) (hq : ∀ a, Q a → Q' a) (he : ∀ c fs, E c fs → E' c fs) : m.wp Q' E' := by
  cases m
  · exact hq _ h
  · exact he _ _ h
  · exact h
theorem wp_ok {a : α} {Q : α → Prop} {E} (h : Q a) : (Res.ok a).wp Q E := h
/-- the same, not opened by itself -/
@[irreducible] def _root_.Mw.Wp {α : Type} (m : Res α) (Q : α → Prop) (E : Nat → List (Str × V) → Prop) : Prop := m.wp Q E
theorem _root_.Mw.Wp.out {α : Type} {m : Res α} {Q : α → Prop} {E} (h : Mw.Wp m Q E) : m.wp Q E := by unfold Mw.Wp at h; exact h
theorem _root_.Mw.Wp.mk {α : Type} {m : Res α} {Q : α → Prop} {E} (h : m.wp Q E) : Mw.Wp m Q E := by unfold Mw.Wp; exact h
/-- no exception may leave -/
def nox : Res α → Res α
  | .exc _ _ => .stuck
  | m => m
@[simp] theorem nox_ok (a : α) : nox (.ok a) = .ok a := rfl
theorem wp_nox {m : Res α} {Q : α → Prop} {E E' : Nat → List (Str × V) → Prop} (h : m.nox.wp Q E) : m.wp Q E' := by
  cases m
  · exact h
  · exact h.elim
  · exact h
def ite (c : Res Bool) (a b : Res α) : Res α := c.bind fun k => if k = true then a else b
@[simp] theorem ite_true (a b : Res α) : ite (.ok true) a b = a := rfl
@[simp] theorem ite_false (a b : Res α) : ite (.ok false) a b = b := rfl
theorem ite_ok (k : Bool) (a b : Res α) : ite (.ok k) a b = if k = true then a else b := rfl
def bind2 (f : α → β → Res γ) (a : Res α) (b : Res β) : Res γ := a.bind fun x => b.bind fun y => f x y
@[simp] theorem bind2_ok (f : α → β → Res γ) (a : α) (b : β) : bind2 f (.ok a) (.ok b) = f a b := rfl
end Res

/-! ### representations -/
structure Rp (α : Type) where
  r : PySem.W.Frag → Hp → V → α → Prop
  mono : ∀ {K G G' v a}, Same G G' → r K G v a → r K G' v a

theorem same_rd {H H' : Hp} {a : Addr} {u : HO} (e : Same H H') (h : Rd H a u) : Rd H' a u := by
  rcases h with h | ⟨o, h⟩
  · exact Or.inl (e a _ h)
  · exact Or.inr ⟨o, e a _ h⟩
theorem same_l {K : PySem.W.Frag} {H H' : Hp} {a : Addr} {xs : List V} (e : Same H H') (h : SqL K H a xs) : SqL K H' a xs := by
  rcases h with h | h
  · exact Or.inl (same_rd e h)
  · exact Or.inr h
theorem same_t {K : PySem.W.Frag} {H H' : Hp} {a : Addr} {xs : List V} (e : Same H H') (h : SqT K H a xs) : SqT K H' a xs := by
  rcases h with h | h
  · exact Or.inl (same_rd e h)
  · exact Or.inr h
theorem same_new {H : Hp} {p : Addr} {o : HO} (h : H p = none) : Same H (upd H p o) := fun a u e => by
  rw [upd_ne (ne_of_none e h)]
  exact e
theorem same_upd {G H : Hp} {p : Addr} {o : HO} (e : Same G H) : Same (upd G p o) (upd H p o) := fun a u h => by
  by_cases q : a = p
  · subst q; rw [upd_same] at h ⊢; exact h
  · rw [upd_ne q] at h ⊢; exact e a u h
theorem same_updG {G H : Hp} {p : Addr} {o : HO} (e : Same G H) (hp : H p = some o) : Same (upd G p o) H := fun a u h => by
  by_cases q : a = p
  · subst q; rw [upd_same] at h; rw [hp]; exact h
  · rw [upd_ne q] at h; exact e a u h
/-- a cell that G doesn't know is written -/
theorem same_mut {G H : Hp} {p : Addr} {o : HO} (e : Same G H) (h : G p = none) : Same G (upd H p o) := fun a u ha => by
  rw [upd_ne (ne_of_none ha h)]
  exact e a u ha
theorem same_back {G H : Hp} {p : Addr} (e : Same G H) (h : H p = none) : G p = none := by
  cases h1 : G p with
  | none => rfl
  | some o => rw [e p o h1] at h; cases h

section
variable {α β γ : Type} {K : PySem.W.Frag} {G G' : Hp}
abbrev RLs (R : Rp α) (K : PySem.W.Frag) (G : Hp) : List V → List α → Prop := Paired (R.r K G)
theorem RLs.mono {R : Rp α} {vs : List V} {xs : List α} (e : Same G G') (h : RLs R K G vs xs) : RLs R K G' vs xs := Paired.mapP h fun _ _ q => R.mono e q
theorem paired_get {F : α → β → Prop} : ∀ {l₁ : List α} {l₂ : List β} {i : Nat} {a : α}, Paired F l₁ l₂ → l₁[i]? = some a → ∃ b, l₂[i]? = some b ∧ F a b
  | _, _, _, _, .nil, e => by simp at e
  | _, _, 0, _, .cons r _, e => by simp at e; subst e; exact ⟨_, rfl, r⟩
  | _, _, i + 1, _, .cons _ t, e => by
    obtain ⟨u, h1, h2⟩ := paired_get (i := i) t (by simpa using e)
    exact ⟨u, by simpa using h1, h2⟩
theorem paired_get' {F : α → β → Prop} : ∀ {l₁ : List α} {l₂ : List β} {i : Nat} {b : β}, Paired F l₁ l₂ → l₂[i]? = some b → ∃ a, l₁[i]? = some a ∧ F a b
  | _, _, _, _, .nil, e => by simp at e
  | _, _, 0, _, .cons r _, e => by simp at e; subst e; exact ⟨_, rfl, r⟩
  | _, _, i + 1, _, .cons _ t, e => by
    obtain ⟨u, h1, h2⟩ := paired_get' (i := i) t (by simpa using e)
    exact ⟨u, by simpa using h1, h2⟩
theorem paired_app {F : α → β → Prop} : ∀ {l₁ l₁' : List α} {l₂ l₂' : List β}, Paired F l₁ l₂ → Paired F l₁' l₂' → Paired F (l₁ ++ l₁') (l₂ ++ l₂')
  | _, _, _, _, .nil, s => s
  | _, _, _, _, .cons r t, s => .cons r (paired_app t s)
theorem paired_set {F : α → β → Prop} {x : α} {y : β} (r : F x y) : ∀ {xs : List α} {ys : List β} (i : Nat), Paired F xs ys → Paired F (xs.set i x) (ys.set i y)
  | _, _, _, .nil => .nil
  | _, _, 0, .cons _ t => .cons r t
  | _, _, i + 1, .cons q t => .cons q (paired_set r i t)
theorem paired_take {F : α → β → Prop} : ∀ {xs : List α} {us : List β} (n : Nat), Paired F xs us → Paired F (xs.take n) (us.take n)
  | _, _, 0, _ => .nil
  | _, _, _ + 1, .nil => .nil
  | _, _, n + 1, .cons r t => .cons r (paired_take n t)
theorem paired_drop {F : α → β → Prop} : ∀ {xs : List α} {us : List β} (n : Nat), Paired F xs us → Paired F (xs.drop n) (us.drop n)
  | _, _, 0, r => r
  | _, _, _ + 1, .nil => .nil
  | _, _, n + 1, .cons _ t => paired_drop n t
theorem paired_rev {F : α → β → Prop} {xs : List α} {us : List β} (h : Paired F xs us) : Paired F xs.reverse us.reverse := by
  induction h with
  | nil => exact .nil
  | cons r t ih => rw [List.reverse_cons, List.reverse_cons]; exact paired_app ih (.cons r .nil)
theorem paired_map {F : α → β → Prop} (f : β → α) (h : ∀ b, F (f b) b) : ∀ l : List β, Paired F (l.map f) l
  | [] => .nil
  | b :: l => .cons (h b) (paired_map f h l)
end

def zI : Rp Int := ⟨fun _ _ v a => v = .int a, fun _ h => h⟩
def rB : Rp Bool := ⟨fun _ _ v a => v = .bl a, fun _ h => h⟩
def rN : Rp Unit := ⟨fun _ _ v _ => v = .non, fun _ h => h⟩
def rS : Rp Str := ⟨fun _ _ v a => v = .str a, fun _ h => h⟩
def rO {α : Type} (R : Rp α) : Rp (Option α) := ⟨fun K G v o => match o with | none => v = .non | some a => v ≠ .non ∧ R.r K G v a, fun {K G G' v o} e h => by
  cases o with
  | none => exact h
  | some a => exact ⟨h.1, R.mono e h.2⟩⟩
def rL {α : Type} (R : Rp α) : Rp (List α) := ⟨fun K G v xs => ∃ p vs, v = .ref p ∧ SqL K G p vs ∧ RLs R K G vs xs, fun e ⟨p, vs, a, b, c⟩ => ⟨p, vs, a, same_l e b, c.mono e⟩⟩
/-- a tuple of any length -/
def rT {α : Type} (R : Rp α) : Rp (List α) := ⟨fun K G v xs => ∃ p vs, v = .ref p ∧ SqT K G p vs ∧ RLs R K G vs xs, fun e ⟨p, vs, a, b, c⟩ => ⟨p, vs, a, same_t e b, c.mono e⟩⟩
/-- lists of values that are told by a product -/
structure Rps (α : Type) where
  r : PySem.W.Frag → Hp → List V → α → Prop
  mono : ∀ {K G G' v a}, Same G G' → r K G v a → r K G' v a
def rs1 {α : Type} (R : Rp α) : Rps α := ⟨fun K G vs a => ∃ v, vs = [v] ∧ R.r K G v a, fun e ⟨v, h, q⟩ => ⟨v, h, R.mono e q⟩⟩
def rsC {α β : Type} (R : Rp α) (S : Rps β) : Rps (α × β) := ⟨fun K G vs a => ∃ v r, vs = v :: r ∧ R.r K G v a.1 ∧ S.r K G r a.2, fun e ⟨v, r, h, q, t⟩ => ⟨v, r, h, R.mono e q, S.mono e t⟩⟩
/-- a tuple of a fixed length -/
def rP {α : Type} (S : Rps α) : Rp α := ⟨fun K G v a => ∃ p vs, v = .ref p ∧ SqT K G p vs ∧ S.r K G vs a, fun e ⟨p, vs, a, b, c⟩ => ⟨p, vs, a, same_t e b, S.mono e c⟩⟩
abbrev rP2 {α β : Type} (R : Rp α) (S : Rp β) : Rp (α × β) := rP (rsC R (rs1 S))
abbrev rP3 {α β γ : Type} (R : Rp α) (S : Rp β) (T : Rp γ) : Rp (α × β × γ) := rP (rsC R (rsC S (rs1 T)))

/-- representations that don't look at the heap -/
def Sc {α : Type} (R : Rp α) : Prop := ∀ K G G' v a, R.r K G v a → R.r K G' v a
theorem sc_I : Sc zI := fun _ _ _ _ _ h => h
theorem sc_B : Sc rB := fun _ _ _ _ _ h => h
theorem sc_N : Sc rN := fun _ _ _ _ _ h => h
theorem sc_S : Sc rS := fun _ _ _ _ _ h => h
theorem sc_O {α : Type} {R : Rp α} (h : Sc R) : Sc (rO R) := fun K G G' v o q => by
  cases o with
  | none => exact q
  | some a => exact ⟨q.1, h K G G' v a q.2⟩

/-! ### states -/
abbrev Own := List (Addr × HO)
/-- an exception's own dict -/
def XdOk (fs : List (Str × V)) (d : Option Addr) (H : Hp) : Prop :=
  match fs with
  | [] => d = none
  | _ => ∃ a, d = some a ∧ H a = some (.xd fs)
structure Fm where
  F : Hp
  G0 : Hp
  E : XK
  cl : Nat → Addr
def Fm.xw (fm : Fm) (c : Nat) (fs : List (Str × V)) : Prop := ∀ H' d, Same fm.F H' → XdOk fs d H' → fm.E (.ref (fm.cl c)) d H'
/-- what is known -/
structure Kn (fm : Fm) (G : Hp) (O : Own) (H : Hp) : Prop where
  fr : Same fm.F H
  gh : Same G H
  own : ∀ p ∈ O, H p.1 = some p.2
/-- a pure step -/
structure Stp (G1 H1 G2 H2 : Hp) : Prop where
  hh : Same H1 H2
  gg : Same G1 G2
  gh : Same G2 H2
  old : ∀ b o, H1 b = some o → G2 b = G1 b
theorem Stp.refl {G H : Hp} (h : Same G H) : Stp G H G H := ⟨Same.refl _, Same.refl _, h, fun _ _ _ => rfl⟩
theorem Stp.trans {G1 H1 G2 H2 G3 H3 : Hp} (a : Stp G1 H1 G2 H2) (b : Stp G2 H2 G3 H3) : Stp G1 H1 G3 H3 :=
  ⟨a.hh.trans b.hh, a.gg.trans b.gg, b.gh, fun x o h => (b.old x o (a.hh x o h)).trans (a.old x o h)⟩
/-- the heap alone has grown -/
theorem Stp.grow {G H H' : Hp} (g : Same G H) (h : Same H H') : Stp G H G H' := ⟨h, Same.refl _, g.trans h, fun _ _ _ => rfl⟩
/-- a new object that stays as it is -/
theorem Stp.new {G H : Hp} {p : Addr} {o : HO} (g : Same G H) (h : H p = none) : Stp G H (upd G p o) (upd H p o) :=
  ⟨same_new h, same_new (same_back g h), same_upd g, fun b u e => upd_ne (ne_of_none e h)⟩
theorem Kn.stp {fm : Fm} {G1 H1 G2 H2 : Hp} {O : Own} (k : Kn fm G1 O H1) (s : Stp G1 H1 G2 H2) : Kn fm G2 O H2 :=
  ⟨k.fr.trans s.hh, s.gh, fun p hp => s.hh _ _ (k.own p hp)⟩

section
variable {α β γ δ : Type} {K : PySem.W.Frag} {fm : Fm} {σ : L2.St} {G G' H : Hp} {O : Own}
/-! ### what evaluates to what -/
def EvE (K : PySem.W.Frag) (fm : Fm) (te : TE) (σ : L2.St) (G : Hp) (O : Own) (R : Rp α) (m : Res α) : Prop :=
  ∀ G1 H1, Same G G1 → Kn fm G1 O H1 → ∀ Q : VK, m.wp (fun x => ∀ v G2 H2, Stp G1 H1 G2 H2 → R.r K G2 v x → Q v H2) fm.xw → te σ H1 Q
/-- a new list, not yet given away -/
def EvN (K : PySem.W.Frag) (fm : Fm) (te : TE) (σ : L2.St) (G : Hp) (O : Own) (R : Rp α) (m : Res (List α)) : Prop :=
  ∀ G1 H1, Same G G1 → Kn fm G1 O H1 → ∀ Q : VK, m.wp (fun xs => ∀ p vs G2 H2, Stp G1 H1 G2 H2 → H1 p = none → G2 p = none → H2 p = some (.lst vs) → RLs R K G2 vs xs → Q (.ref p) H2) fm.xw → te σ H1 Q
def EvT (fm : Fm) (tt : TT) (σ : L2.St) (G : Hp) (O : Own) (m : Res Bool) : Prop :=
  ∀ G1 H1, Same G G1 → Kn fm G1 O H1 → ∀ Q : Bool → Hp → Prop, m.wp (fun b => ∀ G2 H2, Stp G1 H1 G2 H2 → Q b H2) fm.xw → tt σ H1 Q
def EvA (K : PySem.W.Frag) (fm : Fm) (ta : TA) (σ : L2.St) (G : Hp) (O : Own) (R : Rps α) (m : Res α) : Prop :=
  ∀ G1 H1, Same G G1 → Kn fm G1 O H1 → ∀ Q : List V → Hp → Prop, m.wp (fun x => ∀ vs G2 H2, Stp G1 H1 G2 H2 → R.r K G2 vs x → Q vs H2) fm.xw → ta σ H1 Q

variable {te ta tb : TE} {R : Rp α} {S : Rp β} {T : Rp γ} {m : Res α} {n : Res β}
theorem EvE.mono (e : Same G G') (h : EvE K fm te σ G O R m) : EvE K fm te σ G' O R m := fun G1 H1 a => h G1 H1 (e.trans a)
theorem EvN.mono (e : Same G G') {m : Res (List α)} (h : EvN K fm te σ G O R m) : EvN K fm te σ G' O R m := fun G1 H1 a => h G1 H1 (e.trans a)
theorem EvT.mono {tt : TT} (e : Same G G') {m : Res Bool} (h : EvT fm tt σ G O m) : EvT fm tt σ G' O m := fun G1 H1 a => h G1 H1 (e.trans a)
theorem EvE.own {O' : Own} (h : EvE K fm te σ G O R m) (s : ∀ p ∈ O, p ∈ O') : EvE K fm te σ G O' R m := fun G1 H1 a k => h G1 H1 a ⟨k.fr, k.gh, fun p hp => k.own p (s p hp)⟩
theorem EvT.own {O' : Own} {tt : TT} {m : Res Bool} (h : EvT fm tt σ G O m) (s : ∀ p ∈ O, p ∈ O') : EvT fm tt σ G O' m := fun G1 H1 a k => h G1 H1 a ⟨k.fr, k.gh, fun p hp => k.own p (s p hp)⟩
/-- a new list given away -/
theorem EvN.ev {m : Res (List α)} (h : EvN K fm te σ G O R m) : EvE K fm te σ G O (rL R) m := fun G1 H1 a k Q q =>
  h G1 H1 a k Q (Res.wp_mono q (fun xs f p vs G2 H2 s hp gp hl r =>
    f (.ref p) (upd G2 p (.lst vs)) H2 ⟨s.hh, s.gg.trans (same_new gp), same_updG s.gh hl, fun b o e => by
        rw [upd_ne (ne_of_none e hp)]; exact s.old b o e⟩
      ⟨p, vs, rfl, .inl (.inl upd_same), r.mono (same_new gp)⟩) fun _ _ x => x)

/-! ### atoms -/
theorem e_var {i : Nat} {v : V} {x : α} (h : σ[i]? = some (some v)) (r : R.r K G v x) : EvE K fm (tVar i) σ G O R (.ok x) := fun G1 H1 a k Q q =>
  ⟨v, h, q v G1 H1 (Stp.refl k.gh) (R.mono a r)⟩
/-- a list of one's own, read as it stands -/
theorem e_c {v : V} {x : α} (r : ∀ G', R.r K G' v x) : EvE K fm (tC v) σ G O R (.ok x) := fun G1 H1 a k Q q => q v G1 H1 (Stp.refl k.gh) (r G1)
theorem e_int {i : Int} : EvE K fm (tC (.int i)) σ G O zI (.ok i) := e_c fun _ => rfl
theorem e_bl {b : Bool} : EvE K fm (tC (.bl b)) σ G O rB (.ok b) := e_c fun _ => rfl
theorem e_str {s : Str} : EvE K fm (tC (.str s)) σ G O rS (.ok s) := e_c fun _ => rfl
theorem e_non : EvE K fm (tC .non) σ G O rN (.ok ()) := e_c fun _ => rfl
theorem e_nonO : EvE K fm (tC .non) σ G O (rO R) (.ok none) := e_c fun _ => rfl
def someM {α : Type} (m : Res α) : Res (Option α) := m.bind fun x => .ok (some x)
@[simp] theorem someM_ok {α : Type} (x : α) : someM (.ok x) = .ok (some x) := rfl
/-- never None -/
def Nn (R : Rp α) : Prop := ∀ K G v x, R.r K G v x → v ≠ .non
theorem nn_I : Nn zI := fun _ _ v x h => by cases (show v = .int x from h); simp
theorem nn_B : Nn rB := fun _ _ v x h => by cases (show v = .bl x from h); simp
theorem nn_S : Nn rS := fun _ _ v x h => by cases (show v = .str x from h); simp
theorem nn_L : Nn (rL R) := fun _ _ v x ⟨p, vs, h, _⟩ => by cases h; simp
theorem nn_T : Nn (rT R) := fun _ _ v x ⟨p, vs, h, _⟩ => by cases h; simp
theorem nn_P {S : Rps α} : Nn (rP S) := fun _ _ v x ⟨p, vs, h, _⟩ => by cases h; simp
theorem e_some (n : Nn R) (h : EvE K fm te σ G O R m) : EvE K fm te σ G O (rO R) (someM m) := fun G1 H1 a k Q q =>
  h G1 H1 a k Q (Res.wp_mono (Res.wp_bind q) (fun x f v G2 H2 s r => f v G2 H2 s ⟨n _ _ _ _ r, r⟩) fun _ _ z => z)
/-- an Option that is known to be there -/
def getM {α : Type} : Option α → Res α
  | some a => .ok a
  | none => .stuck
@[simp] theorem getM_some {α : Type} (a : α) : getM (some a) = .ok a := rfl
theorem e_get {m : Res (Option α)} (h : EvE K fm te σ G O (rO R) m) : EvE K fm te σ G O R (m.bind getM) := fun G1 H1 a k Q q =>
  h G1 H1 a k Q (Res.wp_mono (Res.wp_bind q) (fun x f v G2 H2 s r => by
    cases x with
    | none => exact f.elim
    | some y => exact (show ∀ v G2 H2, Stp G1 H1 G2 H2 → R.r K G2 v y → Q v H2 from f) v G2 H2 s r.2) fun _ _ z => z)

/-! ### operators -/
theorem e_op {r : R2} {f : α → β → Res γ} (ha : EvE K fm ta σ G O R m) (hb : EvE K fm tb σ G O S n)
    (hr : ∀ G1 H1 x y u v, Kn fm G1 O H1 → R.r K G1 u x → S.r K G1 v y → ∀ Q : VK, (f x y).wp (fun z => ∀ w G2 H2, Stp G1 H1 G2 H2 → T.r K G2 w z → Q w H2) fm.xw → r u v H1 Q) :
    EvE K fm (tOp r ta tb) σ G O T (Res.bind2 f m n) := fun G1 H1 a k Q q =>
  ha G1 H1 a k _ (Res.wp_mono (Res.wp_bind q) (fun x q u G2 H2 s ru =>
    hb G2 H2 (a.trans s.gg) (k.stp s) _ (Res.wp_mono (Res.wp_bind q) (fun y q v G3 H3 s' rv =>
      hr G3 H3 x y u v ((k.stp s).stp s') (R.mono s'.gg ru) rv Q (Res.wp_mono q (fun z q w G4 H4 s'' rw => q w G4 H4 ((s.trans s').trans s'') rw) fun _ _ z => z)) fun _ _ z => z)) fun _ _ z => z)
theorem e_un {r : V → Hp → VK → Prop} {f : α → Res γ} (ha : EvE K fm ta σ G O R m)
    (hr : ∀ G1 H1 x u, Kn fm G1 O H1 → R.r K G1 u x → ∀ Q : VK, (f x).wp (fun z => ∀ w G2 H2, Stp G1 H1 G2 H2 → T.r K G2 w z → Q w H2) fm.xw → r u H1 Q) :
    EvE K fm (tUn r ta) σ G O T (m.bind f) := fun G1 H1 a k Q q =>
  ha G1 H1 a k _ (Res.wp_mono (Res.wp_bind q) (fun x q u G2 H2 s ru =>
    hr G2 H2 x u (k.stp s) ru Q (Res.wp_mono q (fun z q w G4 H4 s'' rw => q w G4 H4 (s.trans s'') rw) fun _ _ z => z)) fun _ _ z => z)

def addM : Res Int → Res Int → Res Int := Res.bind2 fun i j => .ok (i + j)
def subM : Res Int → Res Int → Res Int := Res.bind2 fun i j => .ok (i - j)
def inB (i : Int) : Bool := decide (-(2 ^ 64) < i) && decide (i < 2 ^ 64)
def mulF (i j : Int) : Res Int := if inB i || inB j then .ok (i * j) else .stuck
def mulM : Res Int → Res Int → Res Int := Res.bind2 mulF
def fdivF (i j : Int) : Res Int := if decide (0 < j) && decide (j < 1073741824) then .ok (i / j) else .stuck
def fdivM : Res Int → Res Int → Res Int := Res.bind2 fdivF
def modF (i j : Int) : Res Int := if decide (0 < j) then .ok (i % j) else .stuck
def modM : Res Int → Res Int → Res Int := Res.bind2 modF
def cpow (i j : Int) : Bool := decide (0 ≤ j) && decide (j ≤ 1000000) && decide (i.natAbs < 2 ^ 64)
def powF (i j : Int) : Res Int := if cpow i j then .ok (i ^ j.toNat) else .stuck
def powM : Res Int → Res Int → Res Int := Res.bind2 powF
def shlF (i j : Int) : Res Int := if cpow i j then .ok (i * 2 ^ j.toNat) else .stuck
def shlM : Res Int → Res Int → Res Int := Res.bind2 shlF
def shrF (i j : Int) : Res Int := if decide (0 ≤ j) then .ok (i / 2 ^ j.toNat) else .stuck
def shrM : Res Int → Res Int → Res Int := Res.bind2 shrF
def negM (a : Res Int) : Res Int := a.bind fun i => .ok (-i)
variable {a b : Res Int}
theorem e_add (ha : EvE K fm ta σ G O zI a) (hb : EvE K fm tb σ G O zI b) : EvE K fm (tOp (L2.rI0 fun i j => .int (i + j)) ta tb) σ G O zI (addM a b) :=
  e_op ha hb fun G1 H1 x y u v k ru rv Q q => ⟨x, y, ru, rv, q _ G1 H1 (Stp.refl k.gh) rfl⟩
theorem e_sub (ha : EvE K fm ta σ G O zI a) (hb : EvE K fm tb σ G O zI b) : EvE K fm (tOp (L2.rI0 fun i j => .int (i - j)) ta tb) σ G O zI (subM a b) :=
  e_op ha hb fun G1 H1 x y u v k ru rv Q q => ⟨x, y, ru, rv, q _ G1 H1 (Stp.refl k.gh) rfl⟩
theorem e_opI {C : Int → Int → Prop} {c : Int → Int → Bool} {g : Int → Int → Int} (hc : ∀ i j, c i j = true → C i j) (ha : EvE K fm ta σ G O zI a) (hb : EvE K fm tb σ G O zI b) :
    EvE K fm (tOp (L2.rI C fun i j => .int (g i j)) ta tb) σ G O zI (Res.bind2 (fun i j => if c i j = true then .ok (g i j) else .stuck) a b) :=
  e_op ha hb fun G1 H1 x y u v k ru rv Q q => by
    cases e : c x y with
    | true => simp only [e, if_true] at q; exact ⟨x, y, ru, rv, hc x y e, q _ G1 H1 (Stp.refl k.gh) rfl⟩
    | false => simp only [e] at q; exact q.elim
theorem e_mul (ha : EvE K fm ta σ G O zI a) (hb : EvE K fm tb σ G O zI b) : EvE K fm (tOp (L2.rI CMul fun i j => .int (i * j)) ta tb) σ G O zI (mulM a b) :=
  e_opI (c := fun i j => inB i || inB j) (fun i j h => by
    simp only [inB, Bool.or_eq_true, Bool.and_eq_true, decide_eq_true_eq] at h
    exact h) ha hb
theorem e_fdiv (ha : EvE K fm ta σ G O zI a) (hb : EvE K fm tb σ G O zI b) : EvE K fm (tOp (L2.rI CDiv fun i j => .int (i / j)) ta tb) σ G O zI (fdivM a b) :=
  e_opI (c := fun _ j => decide (0 < j) && decide (j < 1073741824)) (fun i j h => by
    simp only [Bool.and_eq_true, decide_eq_true_eq] at h
    exact h) ha hb
theorem e_mod (ha : EvE K fm ta σ G O zI a) (hb : EvE K fm tb σ G O zI b) : EvE K fm (tOp (L2.rI (fun _ j => 0 < j) fun i j => .int (i % j)) ta tb) σ G O zI (modM a b) :=
  e_opI (c := fun _ j => decide (0 < j)) (fun i j h => by simpa using h) ha hb
theorem cpow_ok {i j : Int} (h : cpow i j = true) : CPow i j := by
  simp only [cpow, Bool.and_eq_true, decide_eq_true_eq] at h
  exact ⟨h.1.1, h.1.2, h.2⟩
theorem e_pow (ha : EvE K fm ta σ G O zI a) (hb : EvE K fm tb σ G O zI b) : EvE K fm (tOp (L2.rI CPow fun i j => .int (i ^ j.toNat)) ta tb) σ G O zI (powM a b) := e_opI (c := cpow) (fun _ _ h => cpow_ok h) ha hb
theorem e_shl (ha : EvE K fm ta σ G O zI a) (hb : EvE K fm tb σ G O zI b) : EvE K fm (tOp (L2.rI CPow fun i j => .int (i * 2 ^ j.toNat)) ta tb) σ G O zI (shlM a b) := e_opI (c := cpow) (fun _ _ h => cpow_ok h) ha hb
theorem e_shr (ha : EvE K fm ta σ G O zI a) (hb : EvE K fm tb σ G O zI b) : EvE K fm (tOp (L2.rI (fun _ j => 0 ≤ j) fun i j => .int (i / 2 ^ j.toNat)) ta tb) σ G O zI (shrM a b) := e_opI (c := fun _ j => decide (0 ≤ j)) (fun i j h => by simpa using h) ha hb
theorem e_neg (ha : EvE K fm ta σ G O zI a) : EvE K fm (tUn (L2.rU fun i => .int (-i)) ta) σ G O zI (negM a) :=
  e_un ha fun G1 H1 x u k ru Q q => ⟨x, ru, q _ G1 H1 (Stp.refl k.gh) rfl⟩
end
end Mw

namespace Mw
open PySem L2
section
variable {α β γ δ : Type} {K : PySem.W.Frag} {fm : Fm} {σ : L2.St} {G G' H : Hp} {O : Own}
variable {te ta tb tc : TE} {R : Rp α} {S : Rp β} {T : Rp γ} {m : Res α} {n : Res β}

/-! ### comparisons of ints -/
def cmpM (p : Int → Int → Bool) : Res Int → Res Int → Res Bool := Res.bind2 fun i j => .ok (p i j)
abbrev ltM := cmpM fun i j => decide (i < j)
abbrev leM := cmpM fun i j => decide (i ≤ j)
abbrev gtM := cmpM fun i j => decide (j < i)
abbrev geM := cmpM fun i j => decide (j ≤ i)
@[simp] theorem cmpM_ok (p : Int → Int → Bool) (i j : Int) : cmpM p (.ok i) (.ok j) = .ok (p i j) := rfl
theorem e_cmp {p : Int → Int → Bool} {a b : Res Int} (ha : EvE K fm ta σ G O zI a) (hb : EvE K fm tb σ G O zI b) : EvE K fm (tOp (L2.rI0 fun i j => .bl (p i j)) ta tb) σ G O rB (cmpM p a b) :=
  e_op ha hb fun G1 H1 x y u v k ru rv Q q => ⟨x, y, ru, rv, q _ G1 H1 (Stp.refl k.gh) rfl⟩

/-! ### scalars: their values -/
structure Sr {α : Type} [DecidableEq α] (R : Rp α) where
  enc : α → V
  is : ∀ {K G v x}, R.r K G v x → v = enc x
  inj : ∀ {x y}, enc x = enc y → x = y
  sc : ∀ x y, scal (enc x) (enc y) = true
  fl : ∀ x, flatV (enc x) = true
  eq : ∀ x y, eqV (enc x) (enc y) = decide (x = y)
def srI : Sr zI := ⟨.int, fun h => h, fun h => by injection h, fun _ _ => rfl, fun _ => rfl, fun x y => by show (x == y) = _; rw [Bool.beq_eq_decide_eq]⟩
def srB : Sr rB := ⟨.bl, fun h => h, fun h => by injection h, fun _ _ => rfl, fun _ => rfl, fun x y => by show (x == y) = _; rw [Bool.beq_eq_decide_eq]⟩
def srS : Sr rS := ⟨.str, fun h => h, fun h => by injection h, fun _ _ => rfl, fun _ => rfl, fun x y => by show (x == y) = _; rw [Bool.beq_eq_decide_eq]⟩
def encO {α : Type} (e : α → V) : Option α → V
  | none => .non
  | some a => e a
def srOI : Sr (rO zI) := ⟨encO .int, fun {K G v x} h => by
    cases x with
    | none => exact h
    | some a => exact h.2, fun {x y} h => by
    cases x <;> cases y
    · rfl
    · cases h
    · cases h
    · injection h with h; rw [h], fun x y => by cases x <;> cases y <;> rfl, fun x => by cases x <;> rfl, fun x y => by
    cases x <;> cases y
    · rfl
    · rfl
    · rfl
    · rename_i a b
      show (a == b) = _
      rw [Bool.beq_eq_decide_eq]
      exact decide_eq_decide.mpr ⟨fun h => by rw [h], fun h => by injection h⟩⟩
def eqM {α : Type} [DecidableEq α] : Res α → Res α → Res Bool := Res.bind2 fun x y => .ok (decide (x = y))
def neM {α : Type} [DecidableEq α] : Res α → Res α → Res Bool := Res.bind2 fun x y => .ok (!decide (x = y))
@[simp] theorem eqM_ok {α : Type} [DecidableEq α] (x y : α) : eqM (.ok x) (.ok y) = .ok (decide (x = y)) := rfl
@[simp] theorem neM_ok {α : Type} [DecidableEq α] (x y : α) : neM (.ok x) (.ok y) = .ok (!decide (x = y)) := rfl
theorem e_eq [DecidableEq α] (s : Sr R) {n : Res α} (ha : EvE K fm ta σ G O R m) (hb : EvE K fm tb σ G O R n) : EvE K fm (tOp rEq ta tb) σ G O rB (eqM m n) :=
  e_op ha hb fun G1 H1 x y u v k ru rv Q q => by
    cases s.is ru; cases s.is rv
    exact ⟨s.sc x y, q _ G1 H1 (Stp.refl k.gh) (by
      show V.bl _ = V.bl _
      rw [decide_eq_decide.mpr ⟨s.inj, fun h => by rw [h]⟩])⟩
theorem e_ne [DecidableEq α] (s : Sr R) {n : Res α} (ha : EvE K fm ta σ G O R m) (hb : EvE K fm tb σ G O R n) : EvE K fm (tOp rNe ta tb) σ G O rB (neM m n) :=
  e_op ha hb fun G1 H1 x y u v k ru rv Q q => by
    cases s.is ru; cases s.is rv
    exact ⟨s.sc x y, q _ G1 H1 (Stp.refl k.gh) (by
      show V.bl _ = V.bl _
      rw [decide_eq_decide.mpr ⟨s.inj, fun h => by rw [h]⟩])⟩
/-- is None -/
def isNM {α : Type} (a : Res (Option α)) : Res Bool := a.bind fun x => .ok x.isNone
def notNM {α : Type} (a : Res (Option α)) : Res Bool := a.bind fun x => .ok x.isSome
@[simp] theorem isNM_ok {α : Type} (x : Option α) : isNM (.ok x) = .ok x.isNone := rfl
@[simp] theorem notNM_ok {α : Type} (x : Option α) : notNM (.ok x) = .ok x.isSome := rfl
theorem rO_none {R : Rp α} {v : V} {x : Option α} (h : (rO R).r K G v x) : decide (v = .non) = x.isNone := by
  cases x with
  | none => exact decide_eq_true h
  | some a => exact decide_eq_false h.1
theorem e_isN {a : Res (Option α)} (ha : EvE K fm ta σ G O (rO R) a) : EvE K fm (tOp (fun x y H Q => y = .non ∧ Q (.bl (decide (x = .non))) H) ta (tC .non)) σ G O rB (isNM a) := fun G1 H1 e k Q q =>
  ha G1 H1 e k _ (Res.wp_mono (Res.wp_bind q) (fun x q v G2 H2 s r => ⟨rfl, by rw [rO_none r]; exact q _ G2 H2 s rfl⟩) fun _ _ z => z)
theorem e_notN {a : Res (Option α)} (ha : EvE K fm ta σ G O (rO R) a) : EvE K fm (tOp (fun x y H Q => y = .non ∧ Q (.bl (!decide (x = .non))) H) ta (tC .non)) σ G O rB (notNM a) := fun G1 H1 e k Q q =>
  ha G1 H1 e k _ (Res.wp_mono (Res.wp_bind q) (fun x q v G2 H2 s r => ⟨rfl, by
    rw [rO_none r]
    exact q _ G2 H2 s (by show V.bl _ = V.bl _; cases x <;> rfl)⟩) fun _ _ z => z)

/-! ### == of nested data -/
structure Qd {α : Type} [DecidableEq α] (R : Rp α) where
  dat : α → PyData
  dp : ∀ {K G v x}, R.r K G v x → Dp K G v (dat x)
  lay : ∀ x, (dat x).canLay0 = true
  dep : Nat
  dle : ∀ x, (dat x).depth ≤ dep
  eqv : ∀ x y, PyData.eqv (dat x) (dat y) = decide (x = y)
  nn : Bool
  nnd : nn = true → ∀ x, dat x ≠ .none
structure Qds {α : Type} [DecidableEq α] (R : Rps α) where
  dat : α → List PyData
  dp : ∀ {K G v x}, R.r K G v x → DpAll K G v (dat x)
  lay : ∀ x, PyData.canLayAll0 (dat x) = true
  dep : Nat
  dle : ∀ x, PyData.depthAll (dat x) ≤ dep
  eqv : ∀ x y, PyData.eqvAll (dat x) (dat y) = decide (x = y)
def qI : Qd zI := ⟨.int, fun h => by cases h; exact .int _, fun _ => rfl, 0, fun _ => Nat.le_refl _, fun x y => by simp only [PyData.eqv]; rw [Bool.beq_eq_decide_eq], true, fun _ _ h => nomatch h⟩
def qB : Qd rB := ⟨.bool, fun h => by cases h; exact .bl _, fun _ => rfl, 0, fun _ => Nat.le_refl _, fun x y => by simp only [PyData.eqv]; rw [Bool.beq_eq_decide_eq], true, fun _ _ h => nomatch h⟩
theorem eqv_none_l {d : PyData} (h : d ≠ .none) : PyData.eqv .none d = false := by
  cases d <;> first | exact absurd rfl h | simp [PyData.eqv]
theorem eqv_none_r {d : PyData} (h : d ≠ .none) : PyData.eqv d .none = false := by
  cases d <;> first | exact absurd rfl h | simp [PyData.eqv]
def qO [DecidableEq α] (q : Qd R) (hn : q.nn = true) : Qd (rO R) where
  dat o := match o with | none => .none | some a => q.dat a
  dp {K G v x} h := by
    cases x with
    | none => cases (show v = .non from h); exact .non
    | some a => exact q.dp h.2
  lay o := by cases o; rfl; exact q.lay _
  dep := q.dep
  dle o := by cases o; exact Nat.zero_le _; exact q.dle _
  eqv x y := by
    cases x <;> cases y
    · simp [PyData.eqv]
    · rw [eqv_none_l (q.nnd hn _)]; simp
    · rw [eqv_none_r (q.nnd hn _)]; simp
    · show PyData.eqv (q.dat _) (q.dat _) = _
      rw [q.eqv]; exact decide_eq_decide.mpr ⟨fun h => by rw [h], fun h => by injection h⟩
  nn := false
  nnd h := nomatch h
theorem canLayAll_map [DecidableEq α] (q : Qd R) : ∀ xs : List α, PyData.canLayAll0 (xs.map q.dat) = true
  | [] => rfl
  | x :: xs => by rw [List.map_cons, PyData.canLayAll0, q.lay x, canLayAll_map q xs]; rfl
theorem depthAll_map [DecidableEq α] (q : Qd R) : ∀ xs : List α, PyData.depthAll (xs.map q.dat) ≤ q.dep
  | [] => Nat.zero_le _
  | x :: xs => by rw [List.map_cons, PyData.depthAll]; exact Nat.max_le.mpr ⟨q.dle x, depthAll_map q xs⟩
theorem eqvAll_map [DecidableEq α] (q : Qd R) : ∀ xs ys : List α, PyData.eqvAll (xs.map q.dat) (ys.map q.dat) = decide (xs = ys)
  | [], [] => by simp only [List.map_nil, PyData.eqvAll, decide_true]
  | [], _ :: _ => by simp [PyData.eqvAll]
  | _ :: _, [] => by simp [PyData.eqvAll]
  | x :: xs, y :: ys => by
    rw [List.map_cons, List.map_cons, PyData.eqvAll, q.eqv x y, eqvAll_map q xs ys, ← Bool.decide_and]
    exact decide_eq_decide.mpr (by rw [List.cons.injEq])
theorem dpAll_map [DecidableEq α] (q : Qd R) {vs : List V} {xs : List α} (h : RLs R K G vs xs) : DpAll K G vs (xs.map q.dat) := by
  induction h with
  | nil => exact .nil
  | cons r t ih => exact .cons (q.dp r) ih
def qL [DecidableEq α] (q : Qd R) : Qd (rL R) where
  dat xs := .list (xs.map q.dat)
  dp {K G v x} h := by
    obtain ⟨p, vs, e, h, r⟩ := h
    subst e
    exact .lst h (dpAll_map q r)
  lay xs := by rw [PyData.canLay0]; exact canLayAll_map q xs
  dep := q.dep + 1
  dle xs := by rw [PyData.depth]; exact Nat.succ_le_succ (depthAll_map q xs)
  eqv x y := by rw [PyData.eqv]; exact eqvAll_map q x y
  nn := true
  nnd _ _ h := nomatch h
def qT [DecidableEq α] (q : Qd R) : Qd (rT R) where
  dat xs := .tuple (xs.map q.dat)
  dp {K G v x} h := by
    obtain ⟨p, vs, e, h, r⟩ := h
    subst e
    exact .tup h (dpAll_map q r)
  lay xs := by rw [PyData.canLay0]; exact canLayAll_map q xs
  dep := q.dep + 1
  dle xs := by rw [PyData.depth]; exact Nat.succ_le_succ (depthAll_map q xs)
  eqv x y := by rw [PyData.eqv]; exact eqvAll_map q x y
  nn := true
  nnd _ _ h := nomatch h
def qs1 [DecidableEq α] (q : Qd R) : Qds (rs1 R) where
  dat x := [q.dat x]
  dp {K G v x} h := by
    obtain ⟨u, e, h⟩ := h
    subst e
    exact .cons (q.dp h) .nil
  lay x := by simp only [PyData.canLayAll0, q.lay, Bool.and_self]
  dep := q.dep
  dle x := by simp only [PyData.depthAll]; exact Nat.max_le.mpr ⟨q.dle x, Nat.zero_le _⟩
  eqv x y := by simp only [PyData.eqvAll, q.eqv, Bool.and_true]
def qsC [DecidableEq α] [DecidableEq β] {S : Rps β} (q : Qd R) (q' : Qds S) : Qds (rsC R S) where
  dat x := q.dat x.1 :: q'.dat x.2
  dp {K G v x} h := by
    obtain ⟨u, r, e, h, t⟩ := h
    subst e
    exact .cons (q.dp h) (q'.dp t)
  lay x := by simp only [PyData.canLayAll0, q.lay, q'.lay, Bool.and_self]
  dep := max q.dep q'.dep
  dle x := by
    simp only [PyData.depthAll]
    exact Nat.max_le.mpr ⟨Nat.le_trans (q.dle x.1) (Nat.le_max_left _ _), Nat.le_trans (q'.dle x.2) (Nat.le_max_right _ _)⟩
  eqv x y := by
    simp only [PyData.eqvAll, q.eqv, q'.eqv]
    rw [← Bool.decide_and]
    exact decide_eq_decide.mpr ⟨fun e => Prod.ext e.1 e.2, fun e => by rw [e]; exact ⟨rfl, rfl⟩⟩
def qP [DecidableEq α] {S : Rps α} (q : Qds S) : Qd (rP S) where
  dat x := .tuple (q.dat x)
  dp {K G v x} h := by
    obtain ⟨p, vs, e, h, r⟩ := h
    subst e
    exact .tup h (q.dp r)
  lay x := by rw [PyData.canLay0]; exact q.lay x
  dep := q.dep + 1
  dle x := by rw [PyData.depth]; exact Nat.succ_le_succ (q.dle x)
  eqv x y := by rw [PyData.eqv]; exact q.eqv x y
  nn := true
  nnd _ _ h := nomatch h
mutual
theorem Dp.same {G G' : Hp} (e : Same G G') : ∀ {v : V} {d : PyData}, Dp K G v d → Dp K G' v d
  | _, _, .non => .non
  | _, _, .bl b => .bl b
  | _, _, .int b => .int b
  | _, _, .str b => .str b
  | _, _, .lst h t => .lst (same_l e h) (Dp.sameAll e t)
  | _, _, .tup h t => .tup (same_t e h) (Dp.sameAll e t)
theorem Dp.sameAll {G G' : Hp} (e : Same G G') : ∀ {v : List V} {d : List PyData}, DpAll K G v d → DpAll K G' v d
  | _, _, .nil => .nil
  | _, _, .cons h t => .cons (Dp.same e h) (Dp.sameAll e t)
end
theorem Qd.shaped [DecidableEq α] (q : Qd R) (h : q.dep ≤ 64) (x : α) : SeqAt.shaped (q.dat x) = true := by
  simp only [SeqAt.shaped, q.lay, Bool.true_and]
  exact decide_eq_true (Nat.le_trans (q.dle x) h)
theorem e_eqD [DecidableEq α] (q : Qd R) (hd : q.dep ≤ 64) {n : Res α} (ha : EvE K fm ta σ G O R m) (hb : EvE K fm tb σ G O R n) : EvE K fm (tOp (rEqD K) ta tb) σ G O rB (eqM m n) :=
  e_op ha hb fun G1 H1 x y u v k ru rv Q h => ⟨_, _, Dp.same k.gh (q.dp ru), Dp.same k.gh (q.dp rv), q.shaped hd _, q.shaped hd _, h _ G1 H1 (Stp.refl k.gh) (by show V.bl _ = V.bl _; rw [q.eqv])⟩
theorem e_neD [DecidableEq α] (q : Qd R) (hd : q.dep ≤ 64) {n : Res α} (ha : EvE K fm ta σ G O R m) (hb : EvE K fm tb σ G O R n) : EvE K fm (tOp (rNeD K) ta tb) σ G O rB (neM m n) :=
  e_op ha hb fun G1 H1 x y u v k ru rv Q h => ⟨_, _, Dp.same k.gh (q.dp ru), Dp.same k.gh (q.dp rv), q.shaped hd _, q.shaped hd _, h _ G1 H1 (Stp.refl k.gh) (by show V.bl _ = V.bl _; rw [q.eqv])⟩

/-! ### in -/
def inM {α : Type} [DecidableEq α] : Res α → Res (List α) → Res Bool := Res.bind2 fun x xs => .ok (decide (x ∈ xs))
def ninM {α : Type} [DecidableEq α] : Res α → Res (List α) → Res Bool := Res.bind2 fun x xs => .ok (!decide (x ∈ xs))
@[simp] theorem inM_ok {α : Type} [DecidableEq α] (x : α) (xs) : inM (.ok x) (.ok xs) = .ok (decide (x ∈ xs)) := rfl
@[simp] theorem ninM_ok {α : Type} [DecidableEq α] (x : α) (xs) : ninM (.ok x) (.ok xs) = .ok (!decide (x ∈ xs)) := rfl
theorem sr_vals [DecidableEq α] (s : Sr R) {vs : List V} {xs : List α} (h : RLs R K G vs xs) : vs = xs.map s.enc := by
  induction h with
  | nil => rfl
  | cons r t ih => rw [ih, s.is r]; rfl
theorem sr_all [DecidableEq α] (s : Sr R) (xs : List α) : (xs.map s.enc).all flatV = true := by
  rw [List.all_eq_true]
  intro y hy
  obtain ⟨x, _, e⟩ := List.mem_map.mp hy
  rw [← e]; exact s.fl x
theorem sr_in [DecidableEq α] (s : Sr R) (x : α) : ∀ xs : List α, inV (s.enc x) (xs.map s.enc) = decide (x ∈ xs)
  | [] => by simp [inV]
  | y :: xs => by
    have ih := sr_in s x xs
    unfold inV at ih ⊢
    rw [List.map_cons, List.any_cons, ih, s.eq, ← Bool.decide_or]
    exact decide_eq_decide.mpr (by rw [List.mem_cons]; exact ⟨fun h => h.imp (fun e => e.symm) id, fun h => h.imp (fun e => e.symm) id⟩)
/-- what a list or tuple reads as -/
def Sq (K : PySem.W.Frag) (C : Rp (List α)) (R : Rp α) : Prop := ∀ G v xs, C.r K G v xs → ∃ p vs, v = .ref p ∧ (SqL K G p vs ∨ SqT K G p vs) ∧ RLs R K G vs xs
theorem sq_L : Sq K (rL R) R := fun G v xs ⟨p, vs, a, b, c⟩ => ⟨p, vs, a, .inl b, c⟩
theorem sq_T : Sq K (rT R) R := fun G v xs ⟨p, vs, a, b, c⟩ => ⟨p, vs, a, .inr b, c⟩
theorem same_q {H H' : Hp} {a : Addr} {xs : List V} (e : Same H H') (h : SqL K H a xs ∨ SqT K H a xs) : SqL K H' a xs ∨ SqT K H' a xs := h.imp (same_l e) (same_t e)
theorem e_in [DecidableEq α] (s : Sr R) {C : Rp (List α)} (c : Sq K C R) {n : Res (List α)} (ha : EvE K fm ta σ G O R m) (hb : EvE K fm tb σ G O C n) : EvE K fm (tOp (rIn K false) ta tb) σ G O rB (inM m n) :=
  e_op ha hb fun G1 H1 x y u v k ru rv Q q => by
    obtain ⟨p, vs, e, h, r⟩ := c _ _ _ rv
    subst e
    cases s.is ru; cases sr_vals s r
    exact ⟨p, _, rfl, same_q k.gh h, s.fl x, sr_all s y, q _ G1 H1 (Stp.refl k.gh) (by
      show V.bl (if false = true then _ else _) = V.bl _
      rw [if_neg Bool.false_ne_true, sr_in])⟩
theorem e_nin [DecidableEq α] (s : Sr R) {C : Rp (List α)} (c : Sq K C R) {n : Res (List α)} (ha : EvE K fm ta σ G O R m) (hb : EvE K fm tb σ G O C n) : EvE K fm (tOp (rIn K true) ta tb) σ G O rB (ninM m n) :=
  e_op ha hb fun G1 H1 x y u v k ru rv Q q => by
    obtain ⟨p, vs, e, h, r⟩ := c _ _ _ rv
    subst e
    cases s.is ru; cases sr_vals s r
    exact ⟨p, _, rfl, same_q k.gh h, s.fl x, sr_all s y, q _ G1 H1 (Stp.refl k.gh) (by
      show V.bl (if true = true then _ else _) = V.bl _
      rw [if_pos rfl, sr_in])⟩

/-! ### items -/
def optM {α : Type} : Option α → Res α
  | some a => .ok a
  | none => .stuck
@[simp] theorem optM_some {α : Type} (a : α) : optM (some a) = .ok a := rfl
def idxM {α : Type} : Res (List α) → Res Int → Res α := Res.bind2 fun xs i => optM (atI xs i)
@[simp] theorem idxM_ok {α : Type} (xs : List α) (i : Int) : idxM (.ok xs) (.ok i) = optM (atI xs i) := rfl
theorem paired_at {F : α → β → Prop} {xs : List α} {ys : List β} (h : Paired F xs ys) {i : Int} {y : β} (e : atI ys i = some y) : ∃ x, atI xs i = some x ∧ F x y := by
  unfold atI at e ⊢
  rw [Paired.length h]
  cases q : ixN ys.length i with
  | none => rw [q] at e; cases e
  | some j =>
    rw [q] at e
    exact paired_get' h e
theorem e_ixL {m : Res (List α)} {n : Res Int} (ha : EvE K fm ta σ G O (rL R) m) (hb : EvE K fm tb σ G O zI n) : EvE K fm (tOp (rIxL K) ta tb) σ G O R (idxM m n) :=
  e_op ha hb fun G1 H1 xs i u v k ru rv Q q => by
    obtain ⟨p, vs, e, h, r⟩ := ru
    subst e
    cases (show v = .int i from rv)
    cases ea : atI xs i with
    | none => rw [ea] at q; exact q.elim
    | some y =>
      rw [ea] at q
      obtain ⟨w, ew, rw'⟩ := paired_at r ea
      exact ⟨p, vs, i, w, rfl, rfl, same_l k.gh h, ew, q w G1 H1 (Stp.refl k.gh) rw'⟩
theorem e_ixT {m : Res (List α)} {n : Res Int} (ha : EvE K fm ta σ G O (rT R) m) (hb : EvE K fm tb σ G O zI n) : EvE K fm (tOp (rIxT K) ta tb) σ G O R (idxM m n) :=
  e_op ha hb fun G1 H1 xs i u v k ru rv Q q => by
    obtain ⟨p, vs, e, h, r⟩ := ru
    subst e
    cases (show v = .int i from rv)
    cases ea : atI xs i with
    | none => rw [ea] at q; exact q.elim
    | some y =>
      rw [ea] at q
      obtain ⟨w, ew, rw'⟩ := paired_at r ea
      exact ⟨p, vs, i, w, rfl, rfl, same_t k.gh h, ew, q w G1 H1 (Stp.refl k.gh) rw'⟩
/-- an item of a tuple of a fixed length -/
def Pj {α β : Type} (S : Rps α) (k : Nat) (R : Rp β) (f : α → β) : Prop := ∀ K G vs a, S.r K G vs a → ∃ v, vs[k]? = some v ∧ R.r K G v (f a)
theorem pj1 : Pj (rs1 R) 0 R (fun a => a) := fun K G vs a ⟨v, e, h⟩ => ⟨v, by rw [e]; rfl, h⟩
theorem pj0 {S : Rps β} : Pj (rsC R S) 0 R (fun a => a.1) := fun K G vs a ⟨v, r, e, h, t⟩ => ⟨v, by rw [e]; rfl, h⟩
theorem pjS {S : Rps β} {k : Nat} {f : β → γ} (h : Pj S k T f) : Pj (rsC R S) (k + 1) T (fun a => f a.2) := fun K G vs a ⟨v, r, e, _, t⟩ => by
  obtain ⟨w, ew, hw⟩ := h K G r a.2 t
  exact ⟨w, by rw [e]; simpa using ew, hw⟩
theorem e_proj {S : Rps α} {k : Nat} {f : α → β} {R : Rp β} (hp : Pj S k R f) (ha : EvE K fm ta σ G O (rP S) m) : EvE K fm (tOp (rIxT K) ta (tC (.int (k : Int)))) σ G O R (m.bind fun a => .ok (f a)) := fun G1 H1 e k' Q q =>
  ha G1 H1 e k' _ (Res.wp_mono (Res.wp_bind q) (fun x q v G2 H2 s r => by
    obtain ⟨p, vs, ev, h, rs⟩ := r
    obtain ⟨w, ew, hw⟩ := hp K G2 vs x rs
    exact ⟨p, vs, (k : Int), w, ev, rfl, same_t s.gh h, L2.atI_nat ew, q w G2 H2 s hw⟩) fun _ _ z => z)

/-! ### argument lists, displays -/
def pairM {α β : Type} : Res α → Res β → Res (α × β) := Res.bind2 fun x y => .ok (x, y)
@[simp] theorem pairM_ok {α β : Type} (x : α) (y : β) : pairM (.ok x) (.ok y) = .ok (x, y) := rfl
theorem a_one (h : EvE K fm te σ G O R m) : EvA K fm (tCons te tNil) σ G O (rs1 R) m := fun G1 H1 e k Q q =>
  h G1 H1 e k _ (Res.wp_mono q (fun x f v G2 H2 s r => f [v] G2 H2 s ⟨v, rfl, r⟩) fun _ _ z => z)
theorem a_cons {S : Rps β} {tr : TA} (h : EvE K fm te σ G O R m) (hr : EvA K fm tr σ G O S n) : EvA K fm (tCons te tr) σ G O (rsC R S) (pairM m n) := fun G1 H1 e k Q q =>
  h G1 H1 e k _ (Res.wp_mono (Res.wp_bind q) (fun x q v G2 H2 s r =>
    hr G2 H2 (e.trans s.gg) (k.stp s) _ (Res.wp_mono (Res.wp_bind q) (fun y q vs G3 H3 s' r' => q (v :: vs) G3 H3 (s.trans s') ⟨v, vs, rfl, R.mono s'.gg r, r'⟩) fun _ _ z => z)) fun _ _ z => z)
/-- n items of one kind -/
def rsL {α : Type} (n : Nat) (R : Rp α) : Rps (List α) := ⟨fun K G vs xs => RLs R K G vs xs ∧ vs.length = n, fun e ⟨a, b⟩ => ⟨a.mono e, b⟩⟩
def consM {α : Type} : Res α → Res (List α) → Res (List α) := Res.bind2 fun x xs => .ok (x :: xs)
@[simp] theorem consM_ok {α : Type} (x : α) (xs) : consM (.ok x) (.ok xs) = .ok (x :: xs) := rfl
theorem l_nil : EvA K fm tNil σ G O (rsL 0 R) (.ok []) := fun G1 H1 e k Q q => q [] G1 H1 (Stp.refl k.gh) ⟨.nil, rfl⟩
theorem l_cons {tr : TA} {i : Nat} {n : Res (List α)} (h : EvE K fm te σ G O R m) (hr : EvA K fm tr σ G O (rsL i R) n) : EvA K fm (tCons te tr) σ G O (rsL (i + 1) R) (consM m n) := fun G1 H1 e k Q q =>
  h G1 H1 e k _ (Res.wp_mono (Res.wp_bind q) (fun x q v G2 H2 s r =>
    hr G2 H2 (e.trans s.gg) (k.stp s) _ (Res.wp_mono (Res.wp_bind q) (fun y q vs G3 H3 s' r' => q (v :: vs) G3 H3 (s.trans s') ⟨.cons (R.mono s'.gg r) r'.1, by rw [List.length_cons, r'.2]⟩) fun _ _ z => z)) fun _ _ z => z)
theorem e_lst {t : TA} {i : Nat} {n : Res (List α)} (h : EvA K fm t σ G O (rsL i R) n) (hi : i ≤ sizeLine) : EvN K fm (tLst t) σ G O R n := fun G1 H1 e k Q q =>
  h G1 H1 e k _ (Res.wp_mono q (fun xs f vs G2 H2 s r => ⟨by rw [r.2]; exact hi, fun p hp =>
    f p vs G2 (upd H2 p (.lst vs)) (s.trans (Stp.grow s.gh (same_new hp))) (same_back s.hh hp) (same_back s.gh hp) upd_same r.1⟩) fun _ _ z => z)
/-- how many values a list has -/
def Ln {α : Type} (S : Rps α) (n : Nat) : Prop := ∀ K G vs a, S.r K G vs a → vs.length = n
theorem ln1 : Ln (rs1 R) 1 := fun K G vs a ⟨v, e, _⟩ => by rw [e]; rfl
theorem lnC {S : Rps β} {n : Nat} (h : Ln S n) : Ln (rsC R S) (n + 1) := fun K G vs a ⟨v, r, e, _, t⟩ => by rw [e, List.length_cons, h K G r a.2 t]
theorem e_tup {S : Rps α} {t : TA} {i : Nat} (l : Ln S i) (h : EvA K fm t σ G O S m) (hi : i ≤ sizeLine) : EvE K fm (tTup t) σ G O (rP S) m := fun G1 H1 e k Q q =>
  h G1 H1 e k _ (Res.wp_mono q (fun x f vs G2 H2 s r => ⟨by rw [l K G2 vs x r]; exact hi, fun p hp =>
    f (.ref p) (upd G2 p (.tup vs)) (upd H2 p (.tup vs)) (s.trans (Stp.new s.gh hp)) ⟨p, vs, rfl, .inl (.inl upd_same), S.mono (same_new (same_back s.gh hp)) r⟩⟩) fun _ _ z => z)
/-- a display of a tuple whose items are of one kind -/
theorem e_tupT {t : TA} {i : Nat} {n : Res (List α)} (h : EvA K fm t σ G O (rsL i R) n) (hi : i ≤ sizeLine) : EvE K fm (tTup t) σ G O (rT R) n := fun G1 H1 e k Q q =>
  h G1 H1 e k _ (Res.wp_mono q (fun x f vs G2 H2 s r => ⟨by rw [r.2]; exact hi, fun p hp =>
    f (.ref p) (upd G2 p (.tup vs)) (upd H2 p (.tup vs)) (s.trans (Stp.new s.gh hp)) ⟨p, vs, rfl, .inl (.inl upd_same), r.1.mono (same_new (same_back s.gh hp))⟩⟩) fun _ _ z => z)

/-! ### calls of defs -/
/-- what a def promises: the representation of its arguments, of its answer, its mirror -/
def spP {α β : Type} (K : PySem.W.Frag) (cl : Nat → Addr) (S : Rps α) (R : Rp β) (f : α → Res β) : Sp := fun vs H Q E => ∃ G a, Same G H ∧ S.r K G vs a ∧
  Wp (f a) (fun y => ∀ v G' H', Stp G H G' H' → R.r K G' v y → Q v H') (fun c fs => ∀ H' d, Same H H' → XdOk fs d H' → E (.ref (cl c)) d H')
theorem e_call {S : Rps α} {f : α → Res β} {R : Rp β} {t : TA} (h : EvA K fm t σ G O S m) : EvE K fm (tCall (spP K fm.cl S R f) [] fm.E t) σ G O R (m.bind f) := fun G1 H1 e k Q q =>
  h G1 H1 e k _ (Res.wp_mono (Res.wp_bind q) (fun x q vs G2 H2 s r => ⟨G2, x, s.gh, by rw [List.append_nil]; exact r,
    .mk (Res.wp_mono q (fun y q v G3 H3 s' rv => q v G3 H3 (s.trans s') rv) fun c fs z H' d a b => z H' d ((k.stp s).fr.trans a) b)⟩) fun _ _ z => z)
/-- a call where no exception may leave -/
theorem e_call0 {S : Rps α} {f : α → Res β} {R : Rp β} {t : TA} (h : EvA K fm t σ G O S m) : EvE K fm (tCall (spP K fm.cl S R f) [] E0 t) σ G O R (m.bind fun a => (f a).nox) := fun G1 H1 e k Q q =>
  h G1 H1 e k _ (Res.wp_mono (Res.wp_bind q) (fun x q vs G2 H2 s r => ⟨G2, x, s.gh, by rw [List.append_nil]; exact r,
    .mk (Res.wp_mono (Res.wp_nox (E' := fun _ _ => False) q) (fun y q v G3 H3 s' rv => q v G3 H3 (s.trans s') rv) fun c fs z => z.elim)⟩) fun _ _ z => z)

/-! ### built-ins -/
theorem e_cb {S : Rps α} {r : List V → Hp → VK → Prop} {f : α → Res γ} {t : TA} (h : EvA K fm t σ G O S m)
    (hr : ∀ G1 H1 x vs, Kn fm G1 O H1 → S.r K G1 vs x → ∀ Q : VK, (f x).wp (fun z => ∀ w G2 H2, Stp G1 H1 G2 H2 → T.r K G2 w z → Q w H2) fm.xw → r vs H1 Q) : EvE K fm (tCB r t) σ G O T (m.bind f) := fun G1 H1 e k Q q =>
  h G1 H1 e k _ (Res.wp_mono (Res.wp_bind q) (fun x q vs G2 H2 s rs =>
    hr G2 H2 x vs (k.stp s) rs Q (Res.wp_mono q (fun z q w G4 H4 s'' rw => q w G4 H4 (s.trans s'') rw) fun _ _ z => z)) fun _ _ z => z)
theorem n_cb {S : Rps α} {r : List V → Hp → VK → Prop} {f : α → Res (List γ)} {t : TA} (h : EvA K fm t σ G O S m)
    (hr : ∀ G1 H1 x vs, Kn fm G1 O H1 → S.r K G1 vs x → ∀ Q : VK, (f x).wp (fun xs => ∀ p vs G2 H2, Stp G1 H1 G2 H2 → H1 p = none → G2 p = none → H2 p = some (.lst vs) → RLs T K G2 vs xs → Q (.ref p) H2) fm.xw → r vs H1 Q) : EvN K fm (tCB r t) σ G O T (m.bind f) := fun G1 H1 e k Q q =>
  h G1 H1 e k _ (Res.wp_mono (Res.wp_bind q) (fun x q vs G2 H2 s rs =>
    hr G2 H2 x vs (k.stp s) rs Q (Res.wp_mono q (fun z q p w G4 H4 s'' hp gp hl rw => q p w G4 H4 (s.trans s'') (same_back s.hh hp) gp hl rw) fun _ _ z => z)) fun _ _ z => z)
abbrev rLen (K : PySem.W.Frag) : List V → Hp → VK → Prop := fun xs H Q => ∃ x n, xs = [x] ∧ LenV K x H n ∧ Q (.int n) H
def lenM {α : Type} (a : Res (List α)) : Res Int := a.bind fun xs => .ok (xs.length : Int)
@[simp] theorem lenM_ok {α : Type} (xs : List α) : lenM (.ok xs) = .ok (xs.length : Int) := rfl
theorem e_len {C : Rp (List α)} (c : Sq K C R) {m : Res (List α)} (h : EvE K fm te σ G O C m) : EvE K fm (tCB (rLen K) (tCons te tNil)) σ G O zI (lenM m) :=
  e_cb (a_one h) fun G1 H1 x vs k ⟨v, ev, r⟩ Q q => by
    subst ev
    obtain ⟨p, vs, e, h, r'⟩ := c _ _ _ r
    subst e
    refine ⟨_, x.length, rfl, ?_, q _ G1 H1 (Stp.refl k.gh) rfl⟩
    rw [← Paired.length r']
    exact h.imp (fun h => ⟨vs, same_l k.gh h, rfl⟩) fun h => ⟨vs, same_t k.gh h, rfl⟩
/-- the length of a fixed tuple -/
theorem e_lenP {S : Rps α} {i : Nat} (l : Ln S i) (h : EvE K fm te σ G O (rP S) m) : EvE K fm (tCB (rLen K) (tCons te tNil)) σ G O zI (m.bind fun _ => .ok (i : Int)) :=
  e_cb (a_one h) fun G1 H1 x vs k ⟨v, ev, p, ws, e, h, r⟩ Q q => by
    subst ev; subst e
    refine ⟨_, i, rfl, ?_, q _ G1 H1 (Stp.refl k.gh) rfl⟩
    rw [← l _ _ _ _ r]
    exact .inr ⟨ws, same_t k.gh h, rfl⟩
/-- list(..) -/
abbrev rLi (K : PySem.W.Frag) : List V → Hp → VK → Prop := fun xs H Q => ∃ p ys, xs = [.ref p] ∧ (SqL K H p ys ∨ SqT K H p ys) ∧ ∀ l, H l = none → Q (.ref l) (upd H l (.lst ys))
theorem n_list {C : Rp (List α)} (c : Sq K C R) {m : Res (List α)} (h : EvE K fm te σ G O C m) : EvN K fm (tCB (rLi K) (tCons te tNil)) σ G O R (m.bind .ok) :=
  n_cb (a_one h) fun G1 H1 x vs k ⟨v, ev, r⟩ Q q => by
    subst ev
    obtain ⟨p, vs, e, h, r'⟩ := c _ _ _ r
    subst e
    exact ⟨p, vs, rfl, same_q k.gh h, fun l hl => q l vs G1 _ (Stp.grow k.gh (same_new hl)) hl (same_back k.gh hl) upd_same r'⟩
/-- tuple(list) -/
abbrev rTu (K : PySem.W.Frag) : List V → Hp → VK → Prop := fun xs H Q => ∃ p ys, xs = [.ref p] ∧ ((SqL K H p ys ∧ ∀ l, H l = none → Q (.ref l) (upd H l (.tup ys))) ∨ (SqT K H p ys ∧ Q (.ref p) H))
theorem e_tupleL {m : Res (List α)} (h : EvE K fm te σ G O (rL R) m) : EvE K fm (tCB (rTu K) (tCons te tNil)) σ G O (rT R) (m.bind .ok) :=
  e_cb (a_one h) fun G1 H1 x vs k ⟨v, ev, r⟩ Q q => by
    subst ev
    obtain ⟨p, vs, e, h, r⟩ := r
    subst e
    exact ⟨p, vs, rfl, .inl ⟨same_l k.gh h, fun l hl => q _ _ _ (Stp.new k.gh hl) ⟨l, vs, rfl, .inl (.inl upd_same), r.mono (same_new (same_back k.gh hl))⟩⟩⟩
/-- int(n), int(flag) -/
abbrev rInt : List V → Hp → VK → Prop := fun xs H Q => (∃ i, xs = [.int i] ∧ Q (.int i) H) ∨ ∃ k, xs = [.bl k] ∧ Q (.int (if k then 1 else 0)) H
theorem e_intI {a : Res Int} (h : EvE K fm te σ G O zI a) : EvE K fm (tCB rInt (tCons te tNil)) σ G O zI (a.bind .ok) :=
  e_cb (a_one h) fun G1 H1 x vs k ⟨v, ev, r⟩ Q q => by
    subst ev; cases (show v = .int x from r)
    exact .inl ⟨x, rfl, q _ G1 H1 (Stp.refl k.gh) rfl⟩
def b2iM (a : Res Bool) : Res Int := a.bind fun b => .ok (if b then 1 else 0)
@[simp] theorem b2iM_ok (b : Bool) : b2iM (.ok b) = .ok (if b then 1 else 0) := rfl
theorem e_intB {a : Res Bool} (h : EvE K fm te σ G O rB a) : EvE K fm (tCB rInt (tCons te tNil)) σ G O zI (b2iM a) :=
  e_cb (a_one h) fun G1 H1 x vs k ⟨v, ev, r⟩ Q q => by
    subst ev; cases (show v = .bl x from r)
    exact .inr ⟨x, rfl, q _ G1 H1 (Stp.refl k.gh) rfl⟩
theorem rls_enc {enc : α → V} (h : ∀ {K G v x}, R.r K G v x → v = enc x) {vs : List V} {xs : List α} (r : RLs R K G vs xs) : vs = xs.map enc := by
  induction r with
  | nil => rfl
  | cons r t ih => rw [ih, h r]; rfl
def sumM (a : Res (List Int)) : Res Int := a.bind fun xs => .ok xs.sum
@[simp] theorem sumM_ok (xs) : sumM (.ok xs) = .ok xs.sum := rfl
theorem e_sum {m : Res (List Int)} (h : EvE K fm te σ G O (rL zI) m) : EvE K fm (tCB (rSum K) (tCons te tNil)) σ G O zI (sumM m) :=
  e_cb (a_one h) fun G1 H1 x vs k ⟨v, ev, p, ws, e, h, r⟩ Q q => by
    subst ev; subst e
    cases rls_enc (R := zI) (enc := V.int) (fun h => h) r
    exact ⟨p, x, rfl, same_l k.gh h, q _ G1 H1 (Stp.refl k.gh) rfl⟩
def anyM (a : Res (List Bool)) : Res Bool := a.bind fun xs => .ok (xs.any id)
def allM (a : Res (List Bool)) : Res Bool := a.bind fun xs => .ok (xs.all id)
@[simp] theorem anyM_ok (xs) : anyM (.ok xs) = .ok (xs.any id) := rfl
@[simp] theorem allM_ok (xs) : allM (.ok xs) = .ok (xs.all id) := rfl
theorem e_any {m : Res (List Bool)} (h : EvE K fm te σ G O (rL rB) m) : EvE K fm (tCB (rAny K) (tCons te tNil)) σ G O rB (anyM m) :=
  e_cb (a_one h) fun G1 H1 x vs k ⟨v, ev, p, ws, e, h, r⟩ Q q => by
    subst ev; subst e
    cases rls_enc (R := rB) (enc := V.bl) (fun h => h) r
    exact ⟨p, x, rfl, same_l k.gh h, q _ G1 H1 (Stp.refl k.gh) rfl⟩
theorem e_all {m : Res (List Bool)} (h : EvE K fm te σ G O (rL rB) m) : EvE K fm (tCB (rAll K) (tCons te tNil)) σ G O rB (allM m) :=
  e_cb (a_one h) fun G1 H1 x vs k ⟨v, ev, p, ws, e, h, r⟩ Q q => by
    subst ev; subst e
    cases rls_enc (R := rB) (enc := V.bl) (fun h => h) r
    exact ⟨p, x, rfl, same_l k.gh h, q _ G1 H1 (Stp.refl k.gh) rfl⟩

/-! ### lists: +, *, slices -/
def cutL {α : Type} (xs : List α) (lo hi : Option Int) : List α := (xs.drop (HT.sIx xs.length 0 lo)).take (HT.sIx xs.length xs.length hi - HT.sIx xs.length 0 lo)
theorem paired_cut {F : V → β → Prop} {vs : List V} {xs : List β} (h : Paired F vs xs) (lo hi : Option Int) : Paired F (cutV vs lo hi) (cutL xs lo hi) := by
  unfold cutV cutL
  rw [Paired.length h]
  exact paired_take _ (paired_drop _ h)
def EvO (fm : Fm) (to : TO) (σ : L2.St) (G : Hp) (O : Own) (m : Res (Option Int)) : Prop :=
  ∀ G1 H1, Same G G1 → Kn fm G1 O H1 → ∀ Q : Option Int → Hp → Prop, m.wp (fun x => ∀ G2 H2, Stp G1 H1 G2 H2 → Q x H2) fm.xw → to σ H1 Q
theorem o_none : EvO fm tNoPart σ G O (.ok none) := fun G1 H1 e k Q q => q G1 H1 (Stp.refl k.gh)
theorem o_some {a : Res Int} (h : EvE K fm te σ G O zI a) : EvO fm (tPart te) σ G O (someM a) := fun G1 H1 e k Q q =>
  h G1 H1 e k _ (Res.wp_mono (Res.wp_bind q) (fun x q v G2 H2 s r => ⟨x, r, q G2 H2 s⟩) fun _ _ z => z)
def sliceM {α : Type} (m : Res (List α)) (lo hi : Res (Option Int)) : Res (List α) := m.bind fun xs => lo.bind fun l => hi.bind fun h => .ok (cutL xs l h)
@[simp] theorem sliceM_ok {α : Type} (xs : List α) (l h) : sliceM (.ok xs) (.ok l) (.ok h) = .ok (cutL xs l h) := rfl
theorem n_slice {tl th : TO} {m : Res (List α)} {lo hi : Res (Option Int)} (h : EvE K fm te σ G O (rL R) m) (h1 : EvO fm tl σ G O lo) (h2 : EvO fm th σ G O hi) : EvN K fm (tSl (rSlL K) te tl th) σ G O R (sliceM m lo hi) := fun G1 H1 e k Q q =>
  h G1 H1 e k _ (Res.wp_mono (Res.wp_bind q) (fun xs q v G2 H2 s r =>
    h1 G2 H2 (e.trans s.gg) (k.stp s) _ (Res.wp_mono (Res.wp_bind q) (fun l q G3 H3 s' =>
      h2 G3 H3 ((e.trans s.gg).trans s'.gg) ((k.stp s).stp s') _ (Res.wp_mono (Res.wp_bind q) (fun hh q G4 H4 s'' => by
        obtain ⟨p, vs, ev, hq, rs⟩ := r
        have ss := (s.trans s').trans s''
        exact ⟨p, vs, ev, same_l ((s'.gg.trans s''.gg).trans ss.gh) hq, fun p' hp => q p' _ G4 _ (ss.trans (Stp.grow ss.gh (same_new hp))) (same_back ss.hh hp) (same_back ss.gh hp) upd_same (paired_cut (rs.mono (s'.gg.trans s''.gg)) _ _)⟩) fun _ _ z => z)) fun _ _ z => z)) fun _ _ z => z)
/-- a list that is one's own to write or was told to the ghost: rCat wants the tracked object itself -/
def rK {α : Type} (R : Rp α) : Rp (List α) := ⟨fun K G v xs => ∃ p vs, v = .ref p ∧ G p = some (.lst vs) ∧ RLs R K G vs xs, fun e ⟨p, vs, a, b, c⟩ => ⟨p, vs, a, e _ _ b, c.mono e⟩⟩
theorem rK_rL {v : V} {xs : List α} (h : (rK R).r K G v xs) : (rL R).r K G v xs := by
  obtain ⟨p, vs, a, b, c⟩ := h
  exact ⟨p, vs, a, .inl (.inl b), c⟩
theorem e_KL {m : Res (List α)} (h : EvE K fm te σ G O (rK R) m) : EvE K fm te σ G O (rL R) m := fun G1 H1 e k Q q =>
  h G1 H1 e k Q (Res.wp_mono q (fun xs q v G2 H2 s r => q v G2 H2 s (rK_rL r)) fun _ _ z => z)
theorem sq_K : Sq K (rK R) R := fun G v xs h => sq_L _ _ _ (rK_rL h)
theorem nn_K : Nn (rK R) := fun _ _ v x ⟨p, vs, h, _⟩ => by cases h; simp
theorem EvN.evK {m : Res (List α)} (h : EvN K fm te σ G O R m) : EvE K fm te σ G O (rK R) m := fun G1 H1 a k Q q =>
  h G1 H1 a k Q (Res.wp_mono q (fun xs f p vs G2 H2 s hp gp hl r =>
    f (.ref p) (upd G2 p (.lst vs)) H2 ⟨s.hh, s.gg.trans (same_new gp), same_updG s.gh hl, fun b o e => by
        rw [upd_ne (ne_of_none e hp)]; exact s.old b o e⟩
      ⟨p, vs, rfl, upd_same, r.mono (same_new gp)⟩) fun _ _ x => x)
def lim : Nat := 16777216
theorem lim_eq : lim = sizeLine := by rw [sizeLine_eq]; rfl
def catF {α : Type} (xs ys : List α) : Res (List α) := if xs.length + ys.length ≤ lim then .ok (xs ++ ys) else .stuck
def catM {α : Type} : Res (List α) → Res (List α) → Res (List α) := Res.bind2 catF
theorem n_cat {m n : Res (List α)} (ha : EvE K fm ta σ G O (rK R) m) (hb : EvE K fm tb σ G O (rK R) n) : EvN K fm (tOp rCat ta tb) σ G O R (catM m n) := fun G1 H1 e k Q q =>
  ha G1 H1 e k _ (Res.wp_mono (Res.wp_bind q) (fun x q u G2 H2 s ru =>
    hb G2 H2 (e.trans s.gg) (k.stp s) _ (Res.wp_mono (Res.wp_bind q) (fun y q v G3 H3 s' rv => by
      obtain ⟨p, vs, e1, h1, r1⟩ := ru
      obtain ⟨p', vs', e2, h2, r2⟩ := rv
      by_cases hl : x.length + y.length ≤ lim
      · rw [catF, if_pos hl] at q
        exact ⟨p, p', vs, vs', e1, e2, (s.trans s').gh _ _ (s'.gg _ _ h1), s'.gh _ _ h2, by rw [Paired.length r1, Paired.length r2, ← lim_eq]; exact hl, fun l hl =>
          q l _ G3 _ ((s.trans s').trans (Stp.grow s'.gh (same_new hl))) (same_back (s.trans s').hh hl) (same_back s'.gh hl) upd_same (paired_app (r1.mono s'.gg) r2)⟩
      · rw [catF, if_neg hl] at q; exact q.elim) fun _ _ z => z)) fun _ _ z => z)
theorem paired_rep {F : α → β → Prop} {xs : List α} {ys : List β} (h : Paired F xs ys) : ∀ k : Nat, Paired F (List.replicate k xs).flatten (List.replicate k ys).flatten
  | 0 => .nil
  | k + 1 => by
    rw [List.replicate_succ, List.replicate_succ, List.flatten_cons, List.flatten_cons]
    exact paired_app h (paired_rep h k)
def repF {α : Type} (xs : List α) (k : Int) : Res (List α) := if decide (-(2 ^ 63) ≤ k) && decide (k < 2 ^ 63) && decide (xs.length * k.toNat ≤ lim) then .ok (List.replicate k.toNat xs).flatten else .stuck
def repM {α : Type} : Res (List α) → Res Int → Res (List α) := Res.bind2 repF
end
end Mw

namespace Mw
open PySem L2
section
variable {α β γ δ : Type} {K : PySem.W.Frag} {fm : Fm} {σ : L2.St} {G G' H : Hp} {O : Own}
variable {te ta tb tc : TE} {R : Rp α} {S : Rp β} {T : Rp γ} {m : Res α} {n : Res β} {t u : TT} {a b c : Res Bool}

/-! ### tests -/
theorem t_val (h : EvE K fm te σ G O rB a) : EvT fm (tB te) σ G O a := fun G1 H1 e k Q q =>
  h G1 H1 e k _ (Res.wp_mono q (fun x q v G2 H2 s r => ⟨x, r, q G2 H2 s⟩) fun _ _ z => z)
theorem t_test (h : EvE K fm te σ G O rB a) : EvT fm (tTest te) σ G O a := t_val h
def andM (a b : Res Bool) : Res Bool := a.bind fun k => if k = true then b else .ok false
def orM (a b : Res Bool) : Res Bool := a.bind fun k => if k = true then .ok true else b
def notM (a : Res Bool) : Res Bool := a.bind fun k => .ok (!k)
@[simp] theorem andM_ok (x : Bool) (b) : andM (.ok x) b = if x = true then b else .ok false := rfl
@[simp] theorem orM_ok (x : Bool) (b) : orM (.ok x) b = if x = true then .ok true else b := rfl
@[simp] theorem notM_ok (x : Bool) : notM (.ok x) = .ok (!x) := rfl
theorem t_and (h1 : EvT fm t σ G O a) (h2 : EvT fm u σ G O b) : EvT fm (tAnd t u) σ G O (andM a b) := fun G1 H1 e k Q q =>
  h1 G1 H1 e k _ (Res.wp_mono (Res.wp_bind q) (fun x q G2 H2 s => by
    cases x with
    | true => exact h2 G2 H2 (e.trans s.gg) (k.stp s) _ (Res.wp_mono q (fun y q G3 H3 s' => q G3 H3 (s.trans s')) fun _ _ z => z)
    | false => exact q G2 H2 s) fun _ _ z => z)
theorem t_or (h1 : EvT fm t σ G O a) (h2 : EvT fm u σ G O b) : EvT fm (tOr t u) σ G O (orM a b) := fun G1 H1 e k Q q =>
  h1 G1 H1 e k _ (Res.wp_mono (Res.wp_bind q) (fun x q G2 H2 s => by
    cases x with
    | false => exact h2 G2 H2 (e.trans s.gg) (k.stp s) _ (Res.wp_mono q (fun y q G3 H3 s' => q G3 H3 (s.trans s')) fun _ _ z => z)
    | true => exact q G2 H2 s) fun _ _ z => z)
theorem t_not (h1 : EvT fm t σ G O a) : EvT fm (tNot t) σ G O (notM a) := fun G1 H1 e k Q q =>
  h1 G1 H1 e k _ (Res.wp_mono (Res.wp_bind q) (fun x q G2 H2 s => q G2 H2 s) fun _ _ z => z)
theorem e_and (h1 : EvE K fm ta σ G O rB a) (h2 : EvE K fm tb σ G O rB b) : EvE K fm (tAndV ta tb) σ G O rB (andM a b) := fun G1 H1 e k Q q =>
  h1 G1 H1 e k _ (Res.wp_mono (Res.wp_bind q) (fun x q v G2 H2 s r => ⟨x, r, by
    cases x with
    | true => exact h2 G2 H2 (e.trans s.gg) (k.stp s) _ (Res.wp_mono q (fun y q v G3 H3 s' r => q v G3 H3 (s.trans s') r) fun _ _ z => z)
    | false => exact q _ G2 H2 s rfl⟩) fun _ _ z => z)
theorem e_or (h1 : EvE K fm ta σ G O rB a) (h2 : EvE K fm tb σ G O rB b) : EvE K fm (tOrV ta tb) σ G O rB (orM a b) := fun G1 H1 e k Q q =>
  h1 G1 H1 e k _ (Res.wp_mono (Res.wp_bind q) (fun x q v G2 H2 s r => ⟨x, r, by
    cases x with
    | false => exact h2 G2 H2 (e.trans s.gg) (k.stp s) _ (Res.wp_mono q (fun y q v G3 H3 s' r => q v G3 H3 (s.trans s') r) fun _ _ z => z)
    | true => exact q _ G2 H2 s rfl⟩) fun _ _ z => z)
theorem e_not (h1 : EvE K fm ta σ G O rB a) : EvE K fm (tNotV ta) σ G O rB (notM a) := fun G1 H1 e k Q q =>
  h1 G1 H1 e k _ (Res.wp_mono (Res.wp_bind q) (fun x q v G2 H2 s r => ⟨x, r, q _ G2 H2 s rfl⟩) fun _ _ z => z)
/-- a test by a value's truth -/
abbrev tTr (K : PySem.W.Frag) (ta : TE) : TT := fun σ H Q => ta σ H fun x H' => ∃ k, TruV K x H' k ∧ Q k H'
def truL {α : Type} (m : Res (List α)) : Res Bool := m.bind fun xs => .ok (!xs.isEmpty)
@[simp] theorem truL_ok {α : Type} (xs : List α) : truL (.ok xs) = .ok (!xs.isEmpty) := rfl
theorem paired_empty {F : α → β → Prop} {xs : List α} {ys : List β} (h : Paired F xs ys) : xs.isEmpty = ys.isEmpty := by cases h <;> rfl
theorem t_truL {m : Res (List α)} (h : EvE K fm te σ G O (rL R) m) : EvT fm (tTr K te) σ G O (truL m) := fun G1 H1 e k Q q =>
  h G1 H1 e k _ (Res.wp_mono (Res.wp_bind q) (fun x q v G2 H2 s ⟨p, vs, ev, hq, r⟩ => by
    subst ev
    exact ⟨_, .inl ⟨vs, same_l s.gh hq, rfl⟩, by rw [paired_empty r]; exact q G2 H2 s⟩) fun _ _ z => z)
def truI (a : Res Int) : Res Bool := a.bind fun i => .ok (i != 0)
theorem t_truI {a : Res Int} (h : EvE K fm te σ G O zI a) : EvT fm (tTr K te) σ G O (truI a) := fun G1 H1 e k Q q =>
  h G1 H1 e k _ (Res.wp_mono (Res.wp_bind q) (fun x q v G2 H2 s r => by
    cases (show v = .int x from r)
    exact ⟨_, rfl, q G2 H2 s⟩) fun _ _ z => z)
theorem e_ifExp {m n : Res α} (h : EvT fm t σ G O c) (h1 : EvE K fm ta σ G O R m) (h2 : EvE K fm tb σ G O R n) : EvE K fm (tIf t ta tb) σ G O R (Res.ite c m n) := fun G1 H1 e k Q q =>
  h G1 H1 e k _ (Res.wp_mono (Res.wp_bind q) (fun x q G2 H2 s => by
    cases x with
    | true => exact h1 G2 H2 (e.trans s.gg) (k.stp s) _ (Res.wp_mono q (fun y q v G3 H3 s' r => q v G3 H3 (s.trans s') r) fun _ _ z => z)
    | false => exact h2 G2 H2 (e.trans s.gg) (k.stp s) _ (Res.wp_mono q (fun y q v G3 H3 s' r => q v G3 H3 (s.trans s') r) fun _ _ z => z)) fun _ _ z => z)
/-- a < b < c of ints -/
def chainM (p p' : Int → Int → Bool) (a b c : Res Int) : Res Bool := a.bind fun x => b.bind fun y => if p x y = true then c.bind fun z => .ok (p' y z) else .ok false
theorem e_chain {p p' : Int → Int → Bool} {a b c : Res Int} (ha : EvE K fm ta σ G O zI a) (hb : EvE K fm tb σ G O zI b) (hc : EvE K fm tc σ G O zI c) :
    EvE K fm (tChain (L2.rI0 fun i j => .bl (p i j)) (L2.rI0 fun i j => .bl (p' i j)) ta tb tc) σ G O rB (chainM p p' a b c) := fun G1 H1 e k Q q =>
  ha G1 H1 e k _ (Res.wp_mono (Res.wp_bind q) (fun x q v G2 H2 s r =>
    hb G2 H2 (e.trans s.gg) (k.stp s) _ (Res.wp_mono (Res.wp_bind q) (fun y q w G3 H3 s' r' => ⟨x, y, r, r', p x y, rfl, by
      cases ep : p x y with
      | true =>
        rw [ep, if_pos rfl] at q
        refine iteT ?_
        exact hc G3 H3 ((e.trans s.gg).trans s'.gg) ((k.stp s).stp s') _ (Res.wp_mono (Res.wp_bind q) (fun z q w' G4 H4 s'' r'' => ⟨y, z, r', r'', q _ G4 H4 ((s.trans s').trans s'') rfl⟩) fun _ _ z => z)
      | false =>
        rw [ep, if_neg Bool.false_ne_true] at q
        refine iteF ?_
        exact q _ G3 H3 (s.trans s') rfl⟩) fun _ _ z => z)) fun _ _ z => z)

/-! ### what a loop walks -/
structure ItOk (K : PySem.W.Frag) (G : Hp) (Oi : Own) (R : Rp α) (J : It) (xs : List α) : Prop where
  go : ∀ i G1 H, Same G G1 → Same G1 H → (∀ p ∈ Oi, H p.1 = some p.2) → i < xs.length → J.go i H
  stop : ∀ G1 H, Same G G1 → Same G1 H → (∀ p ∈ Oi, H p.1 = some p.2) → J.stop xs.length H
  yld : ∀ i G1 H v H', Same G G1 → Same G1 H → (∀ p ∈ Oi, H p.1 = some p.2) → i < xs.length → J.yld i H v H' → ∃ x G', xs[i]? = some x ∧ Stp G1 H G' H' ∧ R.r K G' v x
def EvI (K : PySem.W.Frag) (fm : Fm) (ti : TI) (σ : L2.St) (G : Hp) (O : Own) (Oi : Own) (R : Rp α) (m : Res (List α)) : Prop :=
  ∀ G1 H1, Same G G1 → Kn fm G1 O H1 → ∀ Q : It → Hp → Prop, m.wp (fun xs => ∀ J G2 H2, Stp G1 H1 G2 H2 → ItOk K G2 Oi R J xs → Q J H2) fm.xw → ti σ H1 Q
theorem paired_lt {F : α → β → Prop} {xs : List α} {ys : List β} (h : Paired F xs ys) {i : Nat} (hi : i < ys.length) : ∃ x, xs[i]? = some x := by
  have e := Paired.length h
  exact ⟨xs[i]'(by omega), by simp⟩
theorem itl_ok {p : Addr} {vs : List V} {xs : List α} (h : SqL K G p vs) (r : RLs R K G vs xs) : ItOk K G [] R (Itl K p) xs where
  go := fun i G1 H a b _ hi => let ⟨x, hx⟩ := paired_lt r hi; ⟨vs, x, same_l (a.trans b) h, hx⟩
  stop := fun G1 H a b _ => ⟨vs, same_l (a.trans b) h, Nat.le_of_eq (Paired.length r)⟩
  yld := fun i G1 H v H' a b _ hi y => by
    obtain ⟨e, y⟩ := y
    subst e
    obtain ⟨x, hx, rx⟩ := paired_get r (y vs (same_l (a.trans b) h))
    exact ⟨x, G1, hx, Stp.refl b, R.mono a rx⟩
theorem itt_ok {p : Addr} {vs : List V} {xs : List α} (h : SqT K G p vs) (r : RLs R K G vs xs) : ItOk K G [] R (Itt K p) xs where
  go := fun i G1 H a b _ hi => let ⟨x, hx⟩ := paired_lt r hi; ⟨vs, x, same_t (a.trans b) h, hx⟩
  stop := fun G1 H a b _ => ⟨vs, same_t (a.trans b) h, Nat.le_of_eq (Paired.length r)⟩
  yld := fun i G1 H v H' a b _ hi y => by
    obtain ⟨e, y⟩ := y
    subst e
    obtain ⟨x, hx, rx⟩ := paired_get r (y vs (same_t (a.trans b) h))
    exact ⟨x, G1, hx, Stp.refl b, R.mono a rx⟩
theorem i_list {m : Res (List α)} (h : EvE K fm te σ G O (rL R) m) : EvI K fm (iList K te) σ G O [] R m := fun G1 H1 e k Q q =>
  h G1 H1 e k _ (Res.wp_mono q (fun xs f v G2 H2 s ⟨p, vs, ev, hq, r⟩ => ⟨p, ev, ⟨vs, same_l s.gh hq⟩, f _ G2 H2 s (itl_ok hq r)⟩) fun _ _ z => z)
theorem i_tup {m : Res (List α)} (h : EvE K fm te σ G O (rT R) m) : EvI K fm (iTup K te) σ G O [] R m := fun G1 H1 e k Q q =>
  h G1 H1 e k _ (Res.wp_mono q (fun xs f v G2 H2 s ⟨p, vs, ev, hq, r⟩ => ⟨p, ev, ⟨vs, same_t s.gh hq⟩, f _ G2 H2 s (itt_ok hq r)⟩) fun _ _ z => z)
/-- lo, lo + 1, .. -/
def rgL (lo : Int) (n : Nat) : List Int := (List.range n).map fun i => lo + (i : Nat)
theorem rgL_length (lo : Int) (n : Nat) : (rgL lo n).length = n := by simp [rgL]
theorem rgL_get (lo : Int) {n i : Nat} (h : i < n) : (rgL lo n)[i]? = some (lo + (i : Nat)) := by simp [rgL, h]
theorem itr_ok (lo : Int) (n : Nat) : ItOk K G [] zI (Itr lo n) (rgL lo n) where
  go := fun i G1 H a b _ hi => by rw [rgL_length] at hi; exact hi
  stop := fun G1 H a b _ => by rw [rgL_length]; exact Nat.le_refl n
  yld := fun i G1 H v H' a b _ hi y => by
    rw [rgL_length] at hi
    obtain ⟨e, y⟩ := y
    subst e
    exact ⟨_, G1, rgL_get lo hi, Stp.refl b, y⟩
def inR (j : Int) : Bool := decide (-(2 ^ 62) ≤ j) && decide (j < 2 ^ 62)
def rng1M (a : Res Int) : Res (List Int) := a.bind fun j => if inR j = true then .ok (rgL 0 j.toNat) else .stuck
def rng2M (a b : Res Int) : Res (List Int) := a.bind fun i => b.bind fun j => if (inR i && inR j) = true then .ok (rgL i (j - i).toNat) else .stuck
theorem i_rng1 {a : Res Int} (h : EvE K fm te σ G O zI a) : EvI K fm (iRng1 (tCons te tNil)) σ G O [] zI (rng1M a) := fun G1 H1 e k Q q =>
  h G1 H1 e k _ (Res.wp_mono (Res.wp_bind q) (fun j q v G2 H2 s r => by
    cases (show v = .int j from r)
    cases hj : inR j with
    | false => rw [hj] at q; exact q.elim
    | true =>
      rw [hj, if_pos rfl] at q
      simp only [inR, Bool.and_eq_true, decide_eq_true_eq] at hj
      exact ⟨j, rfl, hj.1, hj.2, q _ G2 H2 s (itr_ok 0 _)⟩) fun _ _ z => z)
theorem i_rng2 {a b : Res Int} (h : EvE K fm ta σ G O zI a) (h' : EvE K fm tb σ G O zI b) : EvI K fm (iRng2 (tCons ta (tCons tb tNil))) σ G O [] zI (rng2M a b) := fun G1 H1 e k Q q =>
  h G1 H1 e k _ (Res.wp_mono (Res.wp_bind q) (fun i q v G2 H2 s r =>
    h' G2 H2 (e.trans s.gg) (k.stp s) _ (Res.wp_mono (Res.wp_bind q) (fun j q w G3 H3 s' r' => by
      cases (show v = .int i from r)
      cases (show w = .int j from r')
      cases hj : (inR i && inR j) with
      | false => rw [hj] at q; exact q.elim
      | true =>
        rw [hj, if_pos rfl] at q
        simp only [inR, Bool.and_eq_true, decide_eq_true_eq] at hj
        exact ⟨i, j, rfl, ⟨hj.1.1, hj.1.2, hj.2.1, hj.2.2⟩, q _ G3 H3 (s.trans s') (itr_ok i _)⟩) fun _ _ z => z)) fun _ _ z => z)
/-- enumerate(list) -/
def enumL {α : Type} (xs : List α) : List (Int × α) := xs.mapIdx fun i x => ((i : Nat), x)
theorem enumL_length (xs : List α) : (enumL xs).length = xs.length := by simp [enumL]
theorem ite_okE {p : Addr} {vs : List V} {xs : List α} (h : SqL K G p vs) (r : RLs R K G vs xs) : ItOk K G [] (rP2 zI R) (Ite K p) (enumL xs) where
  go := fun i G1 H a b _ hi => by
    rw [enumL_length] at hi
    obtain ⟨x, hx⟩ := paired_lt r hi
    exact ⟨vs, x, same_l (a.trans b) h, hx⟩
  stop := fun G1 H a b _ => ⟨vs, same_l (a.trans b) h, by rw [enumL_length]; exact Nat.le_of_eq (Paired.length r)⟩
  yld := fun i G1 H v H' a b _ hi y => by
    obtain ⟨p', x, ev, hp, eH, y⟩ := y
    subst ev eH
    obtain ⟨z, hz, rz⟩ := paired_get r (y vs (same_l (a.trans b) h))
    refine ⟨((i : Int), z), _, by simp [enumL, List.getElem?_mapIdx, hz], Stp.new b hp, p', _, rfl, .inl (.inl upd_same), _, _, rfl, rfl, _, rfl, R.mono (a.trans (same_new (same_back b hp))) rz⟩
def enumM {α : Type} (m : Res (List α)) : Res (List (Int × α)) := m.bind fun xs => .ok (enumL xs)
@[simp] theorem enumM_ok {α : Type} (xs : List α) : enumM (.ok xs) = .ok (enumL xs) := rfl
theorem i_enum {m : Res (List α)} (h : EvE K fm te σ G O (rL R) m) : EvI K fm (iEnum K (tCons te tNil)) σ G O [] (rP2 zI R) (enumM m) := fun G1 H1 e k Q q =>
  h G1 H1 e k _ (Res.wp_mono (Res.wp_bind q) (fun xs f v G2 H2 s ⟨p, vs, ev, hq, r⟩ => by
    subst ev
    exact ⟨p, vs, rfl, same_l s.gh hq, f _ G2 H2 s (ite_okE hq r)⟩) fun _ _ z => z)

/-! ### targets -/
def setL (σ : L2.St) : List Nat → List V → L2.St
  | i :: is, v :: vs => setL (σ.set i (some v)) is vs
  | _, _ => σ
def Tgt (K : PySem.W.Frag) (g : TG) (R : Rp α) (S : Rps α) (is : List Nat) : Prop := ∀ G H v x σ (Q : L2.St → Hp → Prop), Same G H → R.r K G v x → (∀ vs, S.r K G vs x → Q (setL σ is vs) H) → g v σ H Q
theorem tg_name {i : Nat} : Tgt K (gName i) R (rs1 R) [i] := fun G H v x σ Q e r q => q [v] ⟨v, rfl, r⟩
theorem tg_tup2 {i j : Nat} {R : Rp α} {S : Rp β} : Tgt K (gTup K 2 (gCons (gName i) (gCons (gName j) gNil))) (rP2 R S) (rsC R (rs1 S)) [i, j] := fun G H v x σ Q e r q => by
  obtain ⟨p, vs, ev, hq, rs⟩ := r
  obtain ⟨v1, r1, e1, h1, v2, e2, h2⟩ := id rs
  subst ev e1 e2
  exact ⟨p, _, rfl, same_t e hq, rfl, v1, _, rfl, v2, _, rfl, rfl, q _ rs⟩
theorem tg_tup3 {i j k : Nat} {R : Rp α} {S : Rp β} {T : Rp γ} : Tgt K (gTup K 3 (gCons (gName i) (gCons (gName j) (gCons (gName k) gNil)))) (rP3 R S T) (rsC R (rsC S (rs1 T))) [i, j, k] := fun G H v x σ Q e r q => by
  obtain ⟨p, vs, ev, hq, rs⟩ := r
  obtain ⟨v1, r1, e1, h1, v2, r2, e2, h2, v3, e3, h3⟩ := id rs
  subst ev e1 e2 e3
  exact ⟨p, _, rfl, same_t e hq, rfl, v1, _, rfl, v2, _, rfl, v3, _, rfl, rfl, q _ rs⟩

/-! ### list comprehensions -/
def lcM {α β : Type} (p : α → Res Bool) (f : α → Res β) : List α → Res (List β)
  | [] => .ok []
  | x :: xs => (p x).nox.bind fun b => if b = true then (f x).nox.bind fun y => (lcM p f xs).bind fun ys => .ok (y :: ys) else lcM p f xs
def lcB {α β : Type} (p : α → Res Bool) (f : α → Res β) (m : Res (List α)) : Res (List β) := m.bind fun xs => if xs.length < lim then lcM p f xs else .stuck
theorem wipe_get (τ : L2.St) (ws : List Nat) (j : Nat) : (wipe τ ws)[j]? = if j ∈ ws then (τ[j]?).map fun _ => none else τ[j]? := by
  induction ws with
  | nil => simp [wipe]
  | cons w ws ih =>
    show ((wipe τ ws).set w none)[j]? = _
    by_cases e : w = j
    · subst e
      rw [if_pos List.mem_cons_self]
      by_cases hl : w < τ.length
      · rw [List.getElem?_set_self (by rw [wipe_length]; exact hl)]
        simp [hl]
      · rw [List.getElem?_eq_none (by rw [List.length_set, wipe_length]; omega), List.getElem?_eq_none (by omega)]
        rfl
    · rw [List.getElem?_set_ne e, ih]
      by_cases hj : j ∈ ws
      · rw [if_pos hj, if_pos (List.mem_cons_of_mem _ hj)]
      · rw [if_neg hj, if_neg (by
          intro q
          rcases List.mem_cons.mp q with q | q
          · exact e q.symm
          · exact hj q)]
theorem wipe_set {σ : L2.St} {v : Option V} {i : Nat} {ws : List Nat} (h : i ∈ ws) : wipe (σ.set i v) ws = wipe σ ws := by
  apply List.ext_getElem?
  intro j
  rw [wipe_get, wipe_get]
  by_cases hj : j ∈ ws
  · rw [if_pos hj, if_pos hj]
    by_cases e : i = j
    · subst e
      by_cases hl : i < σ.length
      · rw [List.getElem?_set_self hl]; simp [hl]
      · rw [List.getElem?_eq_none (by rw [List.length_set]; omega), List.getElem?_eq_none (by omega)]
    · rw [List.getElem?_set_ne e]
  · rw [if_neg hj, if_neg hj, List.getElem?_set_ne]
    intro e; subst e; exact hj h
theorem wipe_wipe {σ : L2.St} {ws vs : List Nat} (h : ∀ i ∈ vs, i ∈ ws) : wipe (wipe σ vs) ws = wipe σ ws := by
  apply List.ext_getElem?
  intro j
  rw [wipe_get, wipe_get, wipe_get]
  by_cases hj : j ∈ ws
  · rw [if_pos hj, if_pos hj]
    split
    · cases σ[j]? <;> rfl
    · rfl
  · rw [if_neg hj, if_neg hj, if_neg fun q => hj (h j q)]
theorem wipe_setL {ws : List Nat} : ∀ {is : List Nat} {vs : List V} {σ : L2.St}, (∀ i ∈ is, i ∈ ws) → wipe (setL σ is vs) ws = wipe σ ws
  | [], _, _, _ => rfl
  | i :: is, [], _, _ => rfl
  | i :: is, v :: vs, σ, h => by
    show wipe (setL (σ.set i (some v)) is vs) ws = _
    rw [wipe_setL fun j hj => h j (List.mem_cons_of_mem _ hj), wipe_set (h i List.mem_cons_self)]
abbrev Fm.e0 (fm : Fm) : Fm := { fm with E := E0 }
theorem t_yes : EvT fm tYes σ G O (.ok true) := fun G1 H1 e k Q q => q G1 H1 (Stp.refl k.gh)
theorem Kn.e0 (k : Kn fm G O H) : Kn fm.e0 G O H := ⟨k.fr, k.gh, k.own⟩
theorem n_lc {Oi : Own} {ti : TI} {g : TG} {tt : TT} {ws is : List Nat} {m : Res (List α)} {Ss : Rps α} {p : α → Res Bool} {f : α → Res β}
    (hi : EvI K fm ti σ G O Oi R m) (hO : ∀ p ∈ Oi, p ∈ O) (tg : Tgt K g R Ss is) (hw : ∀ i ∈ is, i ∈ ws)
    (hb : ∀ x vs G', Same G G' → Ss.r K G' vs x → EvT fm.e0 tt (setL (wipe σ ws) is vs) G' O (p x) ∧ EvE K fm.e0 te (setL (wipe σ ws) is vs) G' O S (f x)) :
    EvN K fm (tLc ti g tt te ws) σ G O S (lcB p f m) := fun G1 H1 e k Q q =>
  hi G1 H1 e k _ (Res.wp_mono (Res.wp_bind q) (fun xs q J G2 H2 s it Dl hD => by
    by_cases hl : xs.length < lim
    · rw [if_pos hl] at q
      have kD : Kn fm G2 O (upd H2 Dl (.lst [])) := (k.stp s).stp (Stp.grow s.gh (same_new hD))
      have gD : G2 Dl = none := same_back s.gh hD
      refine ⟨fun i mm H => mm = xs.length - i ∧ i ≤ xs.length ∧ ∃ (G3 : Hp) (acc : List V) (ys : List β), Same G2 G3 ∧ Stp G2 H2 G3 H ∧ Kn fm G3 O H ∧ G3 Dl = none ∧ H Dl = some (.lst acc) ∧ acc.length ≤ i ∧ RLs S K G3 acc ys ∧
          (lcM p f (xs.drop i)).wp (fun zs => ∀ (q : Addr) vs G4 H4, Stp G1 H1 G4 H4 → H1 q = none → G4 q = none → H4 q = some (.lst vs) → RLs S K G4 vs (ys ++ zs) → Q (.ref q) H4) fm.xw,
        ⟨xs.length, by simp, Nat.zero_le _, G2, [], [], Same.refl _, Stp.grow s.gh (same_new hD), kD, gD, upd_same, Nat.le_refl _, .nil, q⟩, ?_⟩
      rintro i mm H ⟨rfl, hle, G3, acc, ys, g3, s3, k3, d3, hd3, hacc, racc, q3⟩
      by_cases hlt : i < xs.length
      · refine .inr ⟨it.go i G3 H g3 k3.gh (fun p hp => k3.own p (hO p hp)) hlt, _, fun H' z => ⟨xs.length - (i + 1), by omega, z⟩, fun v H' y => ?_⟩
        obtain ⟨x, G4, hx, s4, rx⟩ := it.yld i G3 H v H' g3 k3.gh (fun p hp => k3.own p (hO p hp)) hlt y
        have hdrop : xs.drop i = x :: xs.drop (i + 1) := by
          obtain ⟨h1, h2⟩ := List.getElem?_eq_some_iff.mp hx
          rw [List.drop_eq_getElem_cons h1, h2]
        rw [hdrop] at q3
        refine tg G4 H' v x _ _ s4.gh rx fun vs rvs => ⟨by rw [wipe_setL hw, wipe_wipe fun i h => h], ?_⟩
        obtain ⟨ht, he⟩ := hb x vs G4 ((e.trans s.gg).trans (g3.trans s4.gg)) rvs
        have k4 : Kn fm G4 O H' := k3.stp s4
        have hd4 : H' Dl = some (.lst acc) := s4.hh _ _ hd3
        have gd4 : G4 Dl = none := by rw [s4.old Dl _ hd3]; exact d3
        refine ht G4 H' (Same.refl _) k4.e0 _ (Res.wp_mono (Res.wp_nox (Res.wp_bind q3)) (fun b q5 G5 H5 s5 => ?_) fun _ _ z => z)
        have hd5 : H5 Dl = some (.lst acc) := s5.hh _ _ hd4
        have gd5 : G5 Dl = none := by rw [s5.old Dl _ hd4]; exact gd4
        cases b with
        | true =>
          refine iteT ?_
          rw [if_pos rfl] at q5
          refine he G5 H5 s5.gg (k4.stp s5).e0 _ (Res.wp_mono (Res.wp_nox (Res.wp_bind q5)) (fun y q6 v' G6 H6 s6 r6 => ?_) fun _ _ z => z)
          have hd6 : H6 Dl = some (.lst acc) := s6.hh _ _ hd5
          have gd6 : G6 Dl = none := by rw [s6.old Dl _ hd5]; exact gd5
          have sAll : Stp G2 H2 G6 H6 := s3.trans ((s4.trans s5).trans s6)
          refine ⟨acc, hd6, by rw [← lim_eq]; omega, rfl, hlt, G6, acc ++ [v'], ys ++ [y], g3.trans ((s4.gg.trans s5.gg).trans s6.gg), ?_, ?_, gd6, upd_same, by rw [List.length_append, List.length_singleton]; omega, paired_app (racc.mono ((s4.gg.trans s5.gg).trans s6.gg)) (.cons r6 .nil), ?_⟩
          · exact ⟨same_mut sAll.hh hD, sAll.gg, same_mut sAll.gh gd6, sAll.old⟩
          · have k6 := (k4.stp s5).stp s6
            refine ⟨fun b o h => ?_, same_mut k6.gh gd6, fun p hp => ?_⟩
            · have := k6.fr b o h
              rw [upd_ne]
              · exact this
              · intro eb; subst eb
                have z := (k.stp s).fr _ _ h
                rw [hD] at z; cases z
            · rw [upd_ne]
              · exact k6.own p hp
              · intro eb
                have z := (k.stp s).own p hp
                rw [eb, hD] at z; cases z
          · exact Res.wp_mono (Res.wp_bind q6) (fun zs q7 qa vs' G7 H7 a b c d r => q7 qa vs' G7 H7 a b c d (by rw [List.append_assoc] at r; exact r)) fun _ _ z => z
        | false =>
          refine iteF ?_
          rw [if_neg Bool.false_ne_true] at q5
          exact ⟨rfl, hlt, G5, acc, ys, g3.trans (s4.gg.trans s5.gg), s3.trans (s4.trans s5), k4.stp s5, gd5, hd5, by omega, racc.mono (s4.gg.trans s5.gg), q5⟩
      · have ei : i = xs.length := by omega
        subst ei
        rw [List.drop_length] at q3
        exact .inl ⟨it.stop G3 H g3 k3.gh (fun p hp => k3.own p (hO p hp)), q3 Dl acc G3 H (s.trans s3) (same_back s.hh hD) d3 hd3 (by rw [List.append_nil]; exact racc)⟩
    · rw [if_neg hl] at q; exact q.elim) fun _ _ z => z)
end
end Mw

namespace Mw
open PySem L2
/-- the state of a def's body: what it began with, the ghost, its own cells -/
structure Hs (fm : Fm) (G : Hp) (O : Own) (H : Hp) : Prop where
  fr : Same fm.F H
  g0 : Same fm.G0 G
  gh : Same G H
  old : ∀ b o, fm.F b = some o → G b = fm.G0 b
  own : ∀ p ∈ O, H p.1 = some p.2 ∧ G p.1 = none ∧ fm.F p.1 = none
  nd : (O.map (·.1)).Nodup
section
variable {α β γ δ ρ : Type} {K : PySem.W.Frag} {fm : Fm} {σ : L2.St} {G G' H H' : Hp} {O : Own}
theorem Hs.kn (h : Hs fm G O H) : Kn fm G O H := ⟨h.fr, h.gh, fun p hp => (h.own p hp).1⟩
theorem Hs.start {cl : Nat → Addr} {E : XK} (g : Same G H) : Hs ⟨H, G, E, cl⟩ G [] H := ⟨Same.refl _, Same.refl _, g, fun _ _ _ => rfl, (fun p hp => by cases hp), List.nodup_nil⟩
theorem Hs.stp (h : Hs fm G O H) (s : Stp G H G' H') : Hs fm G' O H' :=
  ⟨h.fr.trans s.hh, h.g0.trans s.gg, s.gh, fun b o e => (s.old b o (h.fr b o e)).trans (h.old b o e), fun p hp => by
    obtain ⟨a, b, c⟩ := h.own p hp
    exact ⟨s.hh _ _ a, (s.old _ _ a).trans b, c⟩, h.nd⟩
theorem Hs.fin (h : Hs fm G O H) : Stp fm.G0 fm.F G H := ⟨h.fr, h.g0, h.gh, h.old⟩
/-- a new cell of one's own -/
theorem Hs.new {p : Addr} {o : HO} (h : Hs fm G O H) (s : Stp G H G' H') (hp : H p = none) (gp : G' p = none) (e : H' p = some o) : Hs fm G' ((p, o) :: O) H' := by
  have h' := h.stp s
  refine ⟨h'.fr, h'.g0, h'.gh, h'.old, fun q hq => ?_, ?_⟩
  · rcases List.mem_cons.mp hq with rfl | hq
    · exact ⟨e, gp, same_back h.fr hp⟩
    · exact h'.own q hq
  · rw [List.map_cons, List.nodup_cons]
    refine ⟨fun hm => ?_, h.nd⟩
    obtain ⟨q, hq, e'⟩ := List.mem_map.mp hm
    have := (h.own q hq).1
    rw [e', hp] at this
    cases this
theorem nodup_at {O : Own} (h : (O.map (·.1)).Nodup) {i j : Nat} {p q : Addr × HO} (a : O[i]? = some p) (b : O[j]? = some q) (e : p.1 = q.1) : i = j := by
  have a' : (O.map (·.1))[i]? = some p.1 := by rw [List.getElem?_map, a]; rfl
  have b' : (O.map (·.1))[j]? = some p.1 := by rw [List.getElem?_map, b, e]; rfl
  obtain ⟨h1, e1⟩ := List.getElem?_eq_some_iff.mp a'
  obtain ⟨h2, e2⟩ := List.getElem?_eq_some_iff.mp b'
  exact (List.getElem_inj h).mp (e1.trans e2.symm)
/-- a cell of one's own is written -/
theorem Hs.set (h : Hs fm G O H) (i : Nat) {a : Addr} {o o' : HO} (hi : O[i]? = some (a, o)) : Hs fm G (O.set i (a, o')) (upd H a o') := by
  obtain ⟨ha, ga, fa⟩ := h.own (a, o) (List.mem_of_getElem? hi)
  refine ⟨same_mut h.fr fa, h.g0, same_mut h.gh ga, h.old, fun q hq => ?_, ?_⟩
  · obtain ⟨j, hj⟩ := List.mem_iff_getElem?.mp hq
    by_cases e : i = j
    · subst e
      rw [List.getElem?_set_self (List.getElem?_eq_some_iff.mp hi).1] at hj
      cases hj
      exact ⟨upd_same, ga, fa⟩
    · rw [List.getElem?_set_ne e] at hj
      obtain ⟨hq1, hq2, hq3⟩ := h.own q (List.mem_of_getElem? hj)
      refine ⟨?_, hq2, hq3⟩
      rw [upd_ne]
      · exact hq1
      · intro z
        exact e (nodup_at h.nd hi hj z.symm)
  · rw [List.map_set]
    have : (O.map (·.1)).set i a = O.map (·.1) := by
      apply List.ext_getElem?
      intro j
      by_cases e : i = j
      · subst e
        rw [List.getElem?_set_self (by rw [List.length_map]; exact (List.getElem?_eq_some_iff.mp hi).1), List.getElem?_map, hi]; rfl
      · rw [List.getElem?_set_ne e]
    rw [this]; exact h.nd
theorem Hs.at (h : Hs fm G O H) (i : Nat) {a : Addr} {o : HO} (hi : O[i]? = some (a, o)) : H a = some o ∧ G a = none ∧ fm.F a = none := h.own (a, o) (List.mem_of_getElem? hi)
/-- a cell of one's own is given away -/
theorem Hs.give (h : Hs fm G O H) (i : Nat) {a : Addr} {o : HO} (hi : O[i]? = some (a, o)) : Hs fm (upd G a o) (O.eraseIdx i) H := by
  obtain ⟨ha, ga, fa⟩ := h.at i hi
  refine ⟨h.fr, h.g0.trans (same_new ga), same_updG h.gh ha, fun b o e => ?_, fun q hq => ?_, ?_⟩
  · rw [upd_ne (ne_of_none e fa)]; exact h.old b o e
  · obtain ⟨j, hj⟩ := List.mem_iff_getElem?.mp hq
    have hj' : ∃ k, k ≠ i ∧ O[k]? = some q := by
      rw [List.getElem?_eraseIdx] at hj
      split at hj
      · exact ⟨j, by omega, hj⟩
      · exact ⟨j + 1, by omega, hj⟩
    obtain ⟨k, hk, hq'⟩ := hj'
    obtain ⟨hq1, hq2, hq3⟩ := h.own q (List.mem_of_getElem? hq')
    refine ⟨hq1, ?_, hq3⟩
    rw [upd_ne]
    · exact hq2
    · intro z
      exact hk (nodup_at h.nd hq' hi z)
  · exact h.nd.sublist ((List.eraseIdx_sublist _ _).map _)
/-- a cell is forgotten -/
theorem Hs.drop (h : Hs fm G O H) (i : Nat) : Hs fm G (O.eraseIdx i) H :=
  ⟨h.fr, h.g0, h.gh, h.old, fun q hq => h.own q ((List.eraseIdx_sublist O i).subset hq), h.nd.sublist ((List.eraseIdx_sublist _ _).map _)⟩

/-! ### lending: what does not keep the cell may look at it -/
variable {te ta tb tc : TE} {R : Rp α} {S : Rp β} {T : Rp γ} {m : Res α} {n : Res β}
theorem lend_kn {l : Addr} {o : HO} {G1 H1 : Hp} (k : Kn fm G1 O H1) (hl : (l, o) ∈ O) : Kn fm (upd G1 l o) O H1 := ⟨k.fr, same_updG k.gh (k.own _ hl), k.own⟩
theorem lend_same {l : Addr} {o : HO} {G G1 : Hp} (e : Same G G1) : Same (upd G l o) (upd G1 l o) := same_upd e
theorem t_lend {t : TT} {l : Addr} {o : HO} {m : Res Bool} (hl : (l, o) ∈ O) (h : EvT fm t σ (upd G l o) O m) : EvT fm t σ G O m := fun G1 H1 e k Q q =>
  h (upd G1 l o) H1 (same_upd e) (lend_kn k hl) _ (Res.wp_mono q (fun x f G2 H2 s => f G1 H2 (Stp.grow k.gh s.hh)) fun _ _ z => z)
theorem e_lend {l : Addr} {o : HO} (sc : Sc R) (hl : (l, o) ∈ O) (h : EvE K fm te σ (upd G l o) O R m) : EvE K fm te σ G O R m := fun G1 H1 e k Q q =>
  h (upd G1 l o) H1 (same_upd e) (lend_kn k hl) _ (Res.wp_mono q (fun x f v G2 H2 s r => f v G1 H2 (Stp.grow k.gh s.hh) (sc _ _ _ _ _ r)) fun _ _ z => z)
theorem n_lend {l : Addr} {o : HO} {m : Res (List α)} (sc : Sc R) (hl : (l, o) ∈ O) (h : EvN K fm te σ (upd G l o) O R m) : EvN K fm te σ G O R m := fun G1 H1 e k Q q =>
  h (upd G1 l o) H1 (same_upd e) (lend_kn k hl) _ (Res.wp_mono q (fun x f p vs G2 H2 s hp gp h2 r => f p vs G1 H2 (Stp.grow k.gh s.hh) hp (same_back k.gh hp) h2 (Paired.mapP r fun _ _ q => sc _ _ _ _ _ q)) fun _ _ z => z)
/-- a cell of one's own, as a value that is lent -/
theorem e_own {i : Nat} {l : Addr} {vs : List V} {xs : List α} (h : σ[i]? = some (some (.ref l))) (hG : G l = some (.lst vs)) (r : RLs R K G vs xs) : EvE K fm (tVar i) σ G O (rK R) (.ok xs) := e_var h ⟨l, vs, rfl, hG, r⟩
/-- what stands at a cell of one's own: its length, its items -/
theorem e_lenO {i : Nat} {l : Addr} {vs : List V} {xs : List α} (h : σ[i]? = some (some (.ref l))) (hl : (l, HO.lst vs) ∈ O) (r : RLs R K G vs xs) : EvE K fm (tCB (rLen K) (tCons (tVar i) tNil)) σ G O zI (lenM (.ok xs)) := fun G1 H1 e k Q q =>
  ⟨_, h, _, xs.length, rfl, .inl ⟨vs, SqL.of (k.own _ hl), (Paired.length r).symm⟩, q _ G1 H1 (Stp.refl k.gh) rfl⟩
theorem e_ixO {i : Nat} {l : Addr} {vs : List V} {xs : List α} {n : Res Int} (h : σ[i]? = some (some (.ref l))) (hl : (l, HO.lst vs) ∈ O) (r : RLs R K G vs xs) (hb : EvE K fm tb σ G O zI n) : EvE K fm (tOp (rIxL K) (tVar i) tb) σ G O R (idxM (.ok xs) n) := fun G1 H1 e k Q q =>
  ⟨_, h, hb G1 H1 e k _ (Res.wp_mono (Res.wp_bind (m := n) (f := fun j => optM (atI xs j)) q) (fun j q v G2 H2 s rv => by
    cases (show v = .int j from rv)
    cases ea : atI xs j with
    | none => rw [ea] at q; exact q.elim
    | some y =>
      rw [ea] at q
      obtain ⟨w, ew, rw'⟩ := paired_at r ea
      exact ⟨l, vs, j, w, rfl, rfl, SqL.of ((k.stp s).own _ hl), ew, q w G2 H2 s (R.mono (e.trans s.gg) rw')⟩) fun _ _ z => z)⟩

/-! ### statements -/
variable {D : Ends} {tr tt tu tw : TS} {ρ : Type} {Rρ : Rp ρ} {Q : ρ → Prop}
theorem s_asg {g : TG} {Ss : Rps α} {is : List Nat} {mk : α → Res ρ} (tg : Tgt K g R Ss is) (he : EvE K fm te σ G O R m) (hs : Hs fm G O H) (hm : (m.bind mk).wp Q fm.xw)
    (k : ∀ x vs G' H', Same G G' → Hs fm G' O H' → Ss.r K G' vs x → (mk x).wp Q fm.xw → tr D (setL σ is vs) H') : tSeq (tAsg te g) tr D σ H :=
  he G H (Same.refl _) hs.kn _ (Res.wp_mono (Res.wp_bind hm) (fun x q v G2 H2 s r => tg G2 H2 v x σ _ s.gh r fun vs rv => k x vs G2 H2 s.gg (hs.stp s) rv q) fun _ _ z => z)
/-- a new list of one's own -/
theorem s_asgN {i : Nat} {m : Res (List α)} {mk : List α → Res ρ} (he : EvN K fm te σ G O R m) (hs : Hs fm G O H) (hm : (m.bind mk).wp Q fm.xw)
    (k : ∀ xs p vs G' H', Same G G' → Hs fm G' ((p, .lst vs) :: O) H' → RLs R K G' vs xs → (mk xs).wp Q fm.xw → tr D (σ.set i (some (.ref p))) H') : tSeq (tAsg te (gName i)) tr D σ H :=
  he G H (Same.refl _) hs.kn _ (Res.wp_mono (Res.wp_bind hm) (fun xs q p vs G2 H2 s hp gp hl r => k xs p vs G2 H2 s.gg (hs.new s hp gp hl) r q) fun _ _ z => z)
theorem s_aug {i : Nat} {f : Int → Int → Int} {x : Int} {m : Res Int} {mk : Int → Res ρ} (hx : σ[i]? = some (some (.int x))) (he : EvE K fm te σ G O zI m) (hs : Hs fm G O H) (hm : (m.bind fun y => mk (f x y)).wp Q fm.xw)
    (k : ∀ y G' H', Same G G' → Hs fm G' O H' → (mk (f x y)).wp Q fm.xw → tr D (σ.set i (some (.int (f x y)))) H') : tSeq (tAug i te (ipI f)) tr D σ H :=
  ⟨.int x, hx, he G H (Same.refl _) hs.kn _ (Res.wp_mono (Res.wp_bind hm) (fun y q v G2 H2 s r => ⟨x, y, rfl, r, k y G2 H2 s.gg (hs.stp s) q⟩) fun _ _ z => z)⟩
/-- a value that is dropped -/
theorem s_drop {mk : α → Res ρ} (he : EvE K fm te σ G O R m) (hs : Hs fm G O H) (hm : (m.bind mk).wp Q fm.xw)
    (k : ∀ x G' H', Same G G' → Hs fm G' O H' → (mk x).wp Q fm.xw → tr D σ H') : tSeq (tDrop te) tr D σ H :=
  he G H (Same.refl _) hs.kn _ (Res.wp_mono (Res.wp_bind hm) (fun x q v G2 H2 s r => k x G2 H2 s.gg (hs.stp s) q) fun _ _ z => z)
theorem s_ret {kr : α → ρ} (he : EvE K fm te σ G O R m) (hs : Hs fm G O H) (hm : (m.bind fun r => .ok (kr r)).wp Q fm.xw)
    (k : ∀ r v G' H', Hs fm G' O H' → R.r K G' v r → Q (kr r) → D.rt v H') : tSeq (tRet te) tr D σ H :=
  he G H (Same.refl _) hs.kn _ (Res.wp_mono (Res.wp_bind hm) (fun x q v G2 H2 s r => k x v G2 H2 (hs.stp s) r q) fun _ _ z => z)
theorem s_if {c : TT} {mc : Res Bool} {a b : Res ρ} (hc : EvT fm c σ G O mc) (hs : Hs fm G O H) (hm : (Res.ite mc a b).wp Q fm.xw)
    (h1 : ∀ G' H', Same G G' → Hs fm G' O H' → a.wp Q fm.xw → tt { D with nx := tr D } σ H') (h2 : ∀ G' H', Same G G' → Hs fm G' O H' → b.wp Q fm.xw → tu { D with nx := tr D } σ H') : tSeq (tIfS c tt tu) tr D σ H :=
  hc G H (Same.refl _) hs.kn _ (Res.wp_mono (Res.wp_bind hm) (fun x q G2 H2 s => by
    cases x with
    | true => exact h1 G2 H2 s.gg (hs.stp s) q
    | false => exact h2 G2 H2 s.gg (hs.stp s) q) fun _ _ z => z)
/-- xs.append(e), xs in slot i, its cell the j-th of one's own -/
theorem s_append {i : Nat} (j : Nat) {l : Addr} {vs : List V} {xs : List α} {m : Res α} {mk : List α → Res ρ} (hx : σ[i]? = some (some (.ref l))) (hj : O[j]? = some (l, .lst vs)) (hr : RLs R K G vs xs) (he : EvE K fm te σ G O R m) (hs : Hs fm G O H)
    (hm : (m.bind fun y => if xs.length < lim then mk (xs ++ [y]) else .stuck).wp Q fm.xw)
    (k : ∀ y v G' H', Same G G' → Hs fm G' (O.set j (l, .lst (vs ++ [v]))) H' → RLs R K G' (vs ++ [v]) (xs ++ [y]) → (mk (xs ++ [y])).wp Q fm.xw → tr D σ H') : tSeq (tDrop (tBM K "list" rAppend (tVar i) (tCons te tNil))) tr D σ H :=
  ⟨_, hx, .inl ⟨rfl, vs, SqL.of (hs.at j hj).1⟩, he G H (Same.refl _) hs.kn _ (Res.wp_mono (Res.wp_bind hm) (fun y q v G2 H2 s r => by
    by_cases hl : xs.length < lim
    · rw [if_pos hl] at q
      exact ⟨l, vs, v, rfl, rfl, s.hh _ _ (hs.at j hj).1, by rw [Paired.length hr, ← lim_eq]; exact hl, k y v G2 _ s.gg ((hs.stp s).set j hj) (paired_app (hr.mono s.gg) (.cons r .nil)) q⟩
    · rw [if_neg hl] at q; exact q.elim) fun _ _ z => z)⟩
/-- xs[i] = e -/
def setF {α : Type} (xs : List α) (i : Int) (y : α) : Res (List α) := match ixN xs.length i with | some j => .ok (xs.set j y) | none => .stuck
theorem s_setL {i : Nat} (j : Nat) {l : Addr} {vs : List V} {xs : List α} {m : Res α} {n : Res Int} {mk : List α → Res ρ} (hx : σ[i]? = some (some (.ref l))) (hj : O[j]? = some (l, .lst vs)) (hr : RLs R K G vs xs) (he : EvE K fm te σ G O R m) (hi : EvE K fm ta σ G O zI n) (hs : Hs fm G O H)
    (hm : (m.bind fun y => n.bind fun z => (setF xs z y).bind mk).wp Q fm.xw)
    (k : ∀ ys ws G' H', Same G G' → Hs fm G' (O.set j (l, .lst ws)) H' → RLs R K G' ws ys → (mk ys).wp Q fm.xw → tr D σ H') : tSeq (tAsg te (gSub (tVar i) ta rSetL)) tr D σ H :=
  he G H (Same.refl _) hs.kn _ (Res.wp_mono (Res.wp_bind hm) (fun y q v G2 H2 s r => ⟨_, hx, hi G2 H2 s.gg (hs.stp s).kn _ (Res.wp_mono (Res.wp_bind q) (fun z q v' G3 H3 s' r' => by
    have ss := s.trans s'
    cases (show v' = .int z from r')
    cases e : ixN xs.length z with
    | none => rw [setF, e] at q; exact q.elim
    | some jj =>
      rw [setF, e] at q
      exact ⟨l, vs, z, jj, rfl, rfl, ss.hh _ _ (hs.at j hj).1, by rw [Paired.length hr]; exact e, k _ _ G3 _ ss.gg ((hs.stp ss).set j hj) (paired_set (R.mono s'.gg r) jj (hr.mono ss.gg)) q⟩) fun _ _ z => z)⟩) fun _ _ z => z)
/-- raise, by the class's number, the exception without a dict -/
theorem s_raise {cl : Addr} {c : Nat} (hs : Hs fm G O H) (hm : (Res.exc c [] : Res ρ).wp Q fm.xw) (e : fm.cl c = cl) : tSeq (fun _ σ H => (fun _ H (Q : XK) => Q (.ref cl) none H : L2.St → Hp → XK → Prop) σ H fun cls d H' => (fun (cls : Value) (d : Option Addr) (_ : L2.St) (H : Hp) => fm.E cls d H) cls d σ H') tr D σ H := by
  show fm.E (.ref cl) none H
  rw [← e]
  exact hm H none hs.fr rfl

/-! ### loops -/
inductive Tn (S ρ : Type) where | nx (s : S) | bk (s : S) | rt (r : ρ)
inductive Lp (S ρ : Type) where | nx (s : S) | rt (r : ρ)
def forB {α S ρ : Type} (f : α → S → Res (Tn S ρ)) : List α → S → Res (Lp S ρ)
  | [], s => .ok (.nx s)
  | x :: xs, s => (f x s).bind fun t => match t with | .nx s' => forB f xs s' | .bk s' => .ok (.nx s') | .rt r => .ok (.rt r)
def forM {α S : Type} (f : α → S → Res S) : List α → S → Res S
  | [], s => .ok s
  | x :: xs, s => (f x s).bind fun s' => forM f xs s'
/-- what a turn's ends are to give -/
structure TEnds {S ρ : Type} (K : PySem.W.Frag) (fm : Fm) (G : Hp) (W : S → L2.St → Hp → Own → Prop) (Rρ : Rp ρ) (Qb : Tn S ρ → Prop) (D : Ends) : Prop where
  nx : ∀ s σ G1 G2 O H, Same G G2 → W s σ G1 O → Same G1 G2 → Hs fm G2 O H → Qb (.nx s) → D.nx σ H
  ct : ∀ s σ G1 G2 O H, Same G G2 → W s σ G1 O → Same G1 G2 → Hs fm G2 O H → Qb (.nx s) → D.ct σ H
  bk : ∀ s σ G1 G2 O H, Same G G2 → W s σ G1 O → Same G1 G2 → Hs fm G2 O H → Qb (.bk s) → D.bk σ H
  rt : ∀ r v G2 O H, Hs fm G2 O H → Rρ.r K G2 v r → Qb (.rt r) → D.rt v H
theorem s_forB {Oi : Own} {S π : Type} {Sr : Type} {Rr : Rp Sr} {ti : TI} {g : TG} {Ss : Rps α} {is : List Nat} {m : Res (List α)} {f : α → S → Res (Tn S Sr)} {mk : Lp S Sr → Res ρ} {s0 : S} (W : S → L2.St → Hp → Own → Prop)
    (hi : EvI K fm ti σ G O Oi R m) (hO : ∀ s σ G O, W s σ G O → ∀ p ∈ Oi, p ∈ O) (tg : Tgt K g R Ss is) (hs : Hs fm G O H) (hm : ((m.bind fun xs => forB f xs s0).bind mk).wp Q fm.xw) (h0 : W s0 σ G O)
    (hb : ∀ x s σ' G1 G' O' H' vs (D' : Ends) (Qb : Tn S Sr → Prop), Same G G' → W s σ' G1 O' → Same G1 G' → Hs fm G' O' H' → Ss.r K G' vs x → TEnds K fm G' W Rr Qb D' → (f x s).wp Qb fm.xw → tw D' (setL σ' is vs) H')
    (hn : ∀ s σ' G1 G' O' H', Same G G' → W s σ' G1 O' → Same G1 G' → Hs fm G' O' H' → (mk (.nx s)).wp Q fm.xw → tr D σ' H')
    (hr : ∀ r v G2 O2 H2, Hs fm G2 O2 H2 → Rr.r K G2 v r → (mk (.rt r)).wp Q fm.xw → D.rt v H2) : tSeq (tFor ti g tw) tr D σ H := by
  refine hi G H (Same.refl _) hs.kn _ (Res.wp_mono (Res.wp_bind (Res.wp_bind hm)) (fun xs q J G2 H2 s it => ?_) fun _ _ z => z)
  refine ⟨fun i mm σ' H' => mm = xs.length - i ∧ i ≤ xs.length ∧ ∃ s' G1 G' O', Same G2 G' ∧ W s' σ' G1 O' ∧ Same G1 G' ∧ Hs fm G' O' H' ∧ ((forB f (xs.drop i) s').bind mk).wp Q fm.xw,
    ⟨xs.length, by simp, Nat.zero_le _, s0, G, G2, O, Same.refl _, h0, s.gg, hs.stp s, by
      rw [List.drop_zero]
      cases hx : forB f xs s0 with
      | ok a => rw [hx] at q; exact q
      | exc c fs => rw [hx] at q; exact q
      | stuck => rw [hx] at q; exact q⟩, ?_⟩
  rintro i mm σ' H' ⟨rfl, hle, s', G1, G', O', g2, w, g1, hs', q'⟩
  by_cases hlt : i < xs.length
  · refine .inr ⟨it.go i G' H' g2 hs'.gh (fun p hp => (hs'.own p (hO _ _ _ _ w p hp)).1) hlt, _, fun σ2 H2 z => ⟨xs.length - (i + 1), by omega, z⟩, fun v H3 y => ?_⟩
    obtain ⟨x, G4, hx, s4, rx⟩ := it.yld i G' H' v H3 g2 hs'.gh (fun p hp => (hs'.own p (hO _ _ _ _ w p hp)).1) hlt y
    have hdrop : xs.drop i = x :: xs.drop (i + 1) := by
      obtain ⟨h1, h2⟩ := List.getElem?_eq_some_iff.mp hx
      rw [List.drop_eq_getElem_cons h1, h2]
    rw [hdrop] at q'
    refine tg G4 H3 v x _ _ s4.gh rx fun vs rvs => ?_
    refine hb x s' σ' G1 G4 O' H3 vs _ (fun t => ((match t with | .nx s' => forB f (xs.drop (i + 1)) s' | .bk s' => .ok (.nx s') | .rt r => .ok (.rt r)).bind mk).wp Q fm.xw) ((s.gg.trans g2).trans s4.gg) w (g1.trans s4.gg) (hs'.stp s4) rvs ⟨?_, ?_, ?_, ?_⟩ (Res.wp_bind (by
      have := q'
      rw [forB] at this
      cases hx : f x s' with
      | ok a => rw [hx] at this; exact this
      | exc c fs => rw [hx] at this; exact this
      | stuck => rw [hx] at this; exact this))
    · exact fun s5 σ5 G5 G6 O5 H5 a b c d e => ⟨rfl, hlt, s5, G5, G6, O5, (g2.trans s4.gg).trans a, b, c, d, e⟩
    · exact fun s5 σ5 G5 G6 O5 H5 a b c d e => ⟨rfl, hlt, s5, G5, G6, O5, (g2.trans s4.gg).trans a, b, c, d, e⟩
    · exact fun s5 σ5 G5 G6 O5 H5 a b c d e => hn s5 σ5 G5 G6 O5 H5 (((s.gg.trans g2).trans s4.gg).trans a) b c d e
    · exact fun r v G5 O5 H5 a b c => hr r v G5 O5 H5 a b c
  · have ei : i = xs.length := by omega
    subst ei
    rw [List.drop_length] at q'
    exact .inl ⟨it.stop G' H' g2 hs'.gh (fun p hp => (hs'.own p (hO _ _ _ _ w p hp)).1), hn s' σ' G1 G' O' H' (s.gg.trans g2) w g1 hs' q'⟩
/-- a loop that neither breaks nor returns -/
structure MEnds {S : Type} (fm : Fm) (G : Hp) (W : S → L2.St → Hp → Own → Prop) (Qb : S → Prop) (D : Ends) : Prop where
  nx : ∀ s σ G1 G2 O H, Same G G2 → W s σ G1 O → Same G1 G2 → Hs fm G2 O H → Qb s → D.nx σ H
  ct : ∀ s σ G1 G2 O H, Same G G2 → W s σ G1 O → Same G1 G2 → Hs fm G2 O H → Qb s → D.ct σ H
theorem s_forM {Oi : Own} {S : Type} {ti : TI} {g : TG} {Ss : Rps α} {is : List Nat} {m : Res (List α)} {f : α → S → Res S} {mk : S → Res ρ} {s0 : S} (W : S → L2.St → Hp → Own → Prop)
    (hi : EvI K fm ti σ G O Oi R m) (hO : ∀ s σ G O, W s σ G O → ∀ p ∈ Oi, p ∈ O) (tg : Tgt K g R Ss is) (hs : Hs fm G O H) (hm : ((m.bind fun xs => forM f xs s0).bind mk).wp Q fm.xw) (h0 : W s0 σ G O)
    (hb : ∀ x s σ' G1 G' O' H' vs (D' : Ends) (Qb : S → Prop), Same G G' → W s σ' G1 O' → Same G1 G' → Hs fm G' O' H' → Ss.r K G' vs x → MEnds fm G' W Qb D' → (f x s).wp Qb fm.xw → tw D' (setL σ' is vs) H')
    (hn : ∀ s σ' G1 G' O' H', Same G G' → W s σ' G1 O' → Same G1 G' → Hs fm G' O' H' → (mk s).wp Q fm.xw → tr D σ' H') : tSeq (tFor ti g tw) tr D σ H := by
  have key : ∀ (xs : List α) (s : S), ((forB (ρ := Unit) (fun x s => (f x s).bind fun s => .ok (.nx s)) xs s).bind fun | .nx s => mk s | .rt _ => .stuck) = (forM f xs s).bind mk := by
    intro xs
    induction xs with
    | nil => intro s; rfl
    | cons x xs ih =>
      intro s
      rw [forB, forM]
      cases hx : f x s with
      | ok a => simp only [Res.bind_ok]; exact ih a
      | exc c fs => rfl
      | stuck => rfl
  refine s_forB (π := Unit) (Rr := rN) (f := fun x s => (f x s).bind fun s => .ok (.nx s)) (mk := fun | .nx s => mk s | .rt _ => .stuck) (s0 := s0) W hi hO tg hs ?_ h0 (fun x s σ' G1 G' O' H' vs D' Qb a b c d e E q => ?_) hn (fun r v G2 O2 H2 _ _ z => z.elim)
  · cases hx : m with
    | ok xs => rw [hx] at hm; simp only [Res.bind_ok] at hm ⊢; rw [key]; exact hm
    | exc c fs => rw [hx] at hm; exact hm
    | stuck => rw [hx] at hm; exact hm
  · exact hb x s σ' G1 G' O' H' vs D' (fun s => Qb (.nx s)) a b c d e ⟨E.nx, E.ct⟩ (Res.wp_bind q)
/-- while -/
def whB {S ρ : Type} (c : S → Res Bool) (f : S → Res (Tn S ρ)) : Nat → S → Res (Lp S ρ)
  | 0, _ => .stuck
  | n + 1, s => (c s).bind fun b => if b = true then (f s).bind fun t => match t with | .nx s' => whB c f n s' | .bk s' => .ok (.nx s') | .rt r => .ok (.rt r) else .ok (.nx s)
theorem s_whB {S : Type} {Sr : Type} {Rr : Rp Sr} {c : TT} {mc : S → Res Bool} {f : S → Res (Tn S Sr)} {mk : Lp S Sr → Res ρ} {s0 : S} {fuel : Nat} (W : S → L2.St → Hp → Own → Prop)
    (hs : Hs fm G O H) (hm : ((whB mc f fuel s0).bind mk).wp Q fm.xw) (h0 : W s0 σ G O)
    (hc : ∀ s σ' G1 G' O', Same G G' → W s σ' G1 O' → Same G1 G' → EvT fm c σ' G' O' (mc s))
    (hb : ∀ s σ' G1 G' O' H' (D' : Ends) (Qb : Tn S Sr → Prop), Same G G' → W s σ' G1 O' → Same G1 G' → Hs fm G' O' H' → TEnds K fm G' W Rr Qb D' → (f s).wp Qb fm.xw → tw D' σ' H')
    (hn : ∀ s σ' G1 G' O' H', Same G G' → W s σ' G1 O' → Same G1 G' → Hs fm G' O' H' → (mk (.nx s)).wp Q fm.xw → tr D σ' H')
    (hr : ∀ r v G2 O2 H2, Hs fm G2 O2 H2 → Rr.r K G2 v r → (mk (.rt r)).wp Q fm.xw → D.rt v H2) : tSeq (tWhile c tw) tr D σ H := by
  refine ⟨fun mm σ' H' => ∃ s' G1 G' O', Same G G' ∧ W s' σ' G1 O' ∧ Same G1 G' ∧ Hs fm G' O' H' ∧ ((whB mc f mm s').bind mk).wp Q fm.xw, ⟨fuel, s0, G, G, O, Same.refl _, h0, Same.refl _, hs, hm⟩, ?_⟩
  rintro mm σ' H' ⟨s', G1, G', O', g, w, g1, hs', q'⟩
  cases mm with
  | zero => exact q'.elim
  | succ mm =>
    have q1 : (mc s').wp (fun b => ((if b = true then (f s').bind fun t => match t with | .nx s' => whB mc f mm s' | .bk s' => .ok (.nx s') | .rt r => .ok (.rt r) else .ok (.nx s')).bind mk).wp Q fm.xw) fm.xw := by
      rw [whB] at q'
      cases hx : mc s' with
      | ok a => rw [hx] at q'; exact q'
      | exc c fs => rw [hx] at q'; exact q'
      | stuck => rw [hx] at q'; exact q'
    refine hc s' σ' G1 G' O' g w g1 G' H' (Same.refl _) hs'.kn _ (Res.wp_mono q1 (fun b q2 G2 H2 s2 => ?_) fun _ _ z => z)
    cases b with
    | true =>
      refine iteT ⟨_, fun σ2 H2 z => ⟨mm, Nat.lt_succ_self _, z⟩, ?_⟩
      rw [if_pos rfl] at q2
      refine hb s' σ' G1 G2 O' H2 _ (fun t => ((match t with | .nx s' => whB mc f mm s' | .bk s' => .ok (.nx s') | .rt r => .ok (.rt r)).bind mk).wp Q fm.xw) (g.trans s2.gg) w (g1.trans s2.gg) (hs'.stp s2) ⟨?_, ?_, ?_, ?_⟩ (Res.wp_bind (by
        cases hx : f s' with
        | ok a => rw [hx] at q2; exact q2
        | exc c fs => rw [hx] at q2; exact q2
        | stuck => rw [hx] at q2; exact q2))
      · exact fun s5 σ5 G5 G6 O5 H5 a b c d e => ⟨s5, G5, G6, O5, (g.trans s2.gg).trans a, b, c, d, e⟩
      · exact fun s5 σ5 G5 G6 O5 H5 a b c d e => ⟨s5, G5, G6, O5, (g.trans s2.gg).trans a, b, c, d, e⟩
      · exact fun s5 σ5 G5 G6 O5 H5 a b c d e => hn s5 σ5 G5 G6 O5 H5 ((g.trans s2.gg).trans a) b c d e
      · exact fun r v G5 O5 H5 a b c => hr r v G5 O5 H5 a b c
    | false =>
      refine iteF ?_
      rw [if_neg Bool.false_ne_true] at q2
      exact hn s' σ' G1 G2 O' H2 (g.trans s2.gg) w (g1.trans s2.gg) (hs'.stp s2) q2
end
end Mw

namespace Mw
open PySem PySem.Spec PyProof.Rows L2
section
variable {α β γ δ ρ : Type} {K : PySem.W.Frag} {fm : Fm} {σ : L2.St} {G G' H H' : Hp} {O : Own}
variable {te ta tb tc : TE} {R : Rp α} {S : Rp β} {T : Rp γ} {m : Res α} {n : Res β}

/-! ### where two ways meet again -/
structure JEnds {J : Type} (fm : Fm) (G : Hp) (W : J → L2.St → Hp → Own → Prop) (Qb : J → Prop) (N : L2.St → Hp → Prop) : Prop where
  nx : ∀ s σ G1 G2 O H, Same G G2 → W s σ G1 O → Same G1 G2 → Hs fm G2 O H → Qb s → N σ H
variable {D : Ends} {tr tt tu tw : TS} {Q : ρ → Prop}
theorem s_ifJ {J : Type} {c : TT} {mc : Res Bool} {a b : Res ρ} {k : J → Res ρ} (W : J → L2.St → Hp → Own → Prop) (hc : EvT fm c σ G O mc) (hs : Hs fm G O H) (hm : (Res.ite mc a b).wp Q fm.xw)
    (hk : ∀ s σ' G1 G' O' H', Same G G' → W s σ' G1 O' → Same G1 G' → Hs fm G' O' H' → (k s).wp Q fm.xw → tr D σ' H')
    (h1 : ∀ G' H', JEnds fm G' W (fun s => (k s).wp Q fm.xw) (tr D) → Same G G' → Hs fm G' O H' → a.wp Q fm.xw → tt { D with nx := tr D } σ H')
    (h2 : ∀ G' H', JEnds fm G' W (fun s => (k s).wp Q fm.xw) (tr D) → Same G G' → Hs fm G' O H' → b.wp Q fm.xw → tu { D with nx := tr D } σ H') : tSeq (tIfS c tt tu) tr D σ H :=
  s_if hc hs hm (fun G' H' e hs' q => h1 G' H' ⟨fun s σ G1 G2 O H a b c d e' => hk s σ G1 G2 O H (e.trans a) b c d e'⟩ e hs' q) fun G' H' e hs' q => h2 G' H' ⟨fun s σ G1 G2 O H a b c d e' => hk s σ G1 G2 O H (e.trans a) b c d e'⟩ e hs' q

/-! ### rK: more -/
def qK [DecidableEq α] (q : Qd R) : Qd (rK R) where
  dat xs := .list (xs.map q.dat)
  dp {K G v x} h := (qL q).dp (rK_rL h)
  lay := (qL q).lay
  dep := q.dep + 1
  dle := (qL q).dle
  eqv := (qL q).eqv
  nn := true
  nnd _ _ h := nomatch h
theorem n_rep {m : Res (List α)} {n : Res Int} (ha : EvE K fm ta σ G O (rK R) m) (hb : EvE K fm tb σ G O zI n) : EvN K fm (tOp rRep ta tb) σ G O R (repM m n) := fun G1 H1 e k Q q =>
  ha G1 H1 e k _ (Res.wp_mono (Res.wp_bind q) (fun x q u G2 H2 s ru =>
    hb G2 H2 (e.trans s.gg) (k.stp s) _ (Res.wp_mono (Res.wp_bind q) (fun y q v G3 H3 s' rv => by
      obtain ⟨p, vs, e1, h1, r1⟩ := ru
      cases (show v = .int y from rv)
      cases hl : (decide (-(2 ^ 63) ≤ y) && decide (y < 2 ^ 63) && decide (x.length * y.toNat ≤ lim)) with
      | true =>
        rw [repF, hl, if_pos rfl] at q
        simp only [Bool.and_eq_true, decide_eq_true_eq] at hl
        exact ⟨p, y, vs, e1, rfl, s'.gh _ _ (s'.gg _ _ h1), hl.1.1, hl.1.2, by rw [Paired.length r1, ← lim_eq]; exact hl.2, fun l hl =>
          q l _ G3 _ ((s.trans s').trans (Stp.grow s'.gh (same_new hl))) (same_back (s.trans s').hh hl) (same_back s'.gh hl) upd_same (paired_rep (r1.mono s'.gg) _)⟩
      | false => rw [repF, hl] at q; exact q.elim) fun _ _ z => z)) fun _ _ z => z)
theorem rls_some (nn : Nn R) {vs : List V} {xs : List α} (r : RLs R K G vs xs) : RLs (rO R) K G vs (xs.map some) := by
  induction r with
  | nil => exact .nil
  | cons r t ih => exact .cons ⟨nn _ _ _ _ r, r⟩ ih
/-- list[int] as list[int or None] and back -/
theorem e_mapSome (nn : Nn R) {m : Res (List α)} (h : EvE K fm te σ G O (rK R) m) : EvE K fm te σ G O (rK (rO R)) (m.bind fun xs => .ok (xs.map some)) := fun G1 H1 e k Q q =>
  h G1 H1 e k _ (Res.wp_mono (Res.wp_bind q) (fun xs q v G2 H2 s ⟨p, vs, e1, h1, r1⟩ => q v G2 H2 s ⟨p, vs, e1, h1, rls_some nn r1⟩) fun _ _ z => z)
def allSome {α : Type} : List (Option α) → Option (List α)
  | [] => some []
  | none :: _ => none
  | some a :: xs => match allSome xs with | some ys => some (a :: ys) | none => none
theorem allSome_map {α : Type} : ∀ xs : List α, allSome (xs.map some) = some xs
  | [] => rfl
  | x :: xs => by rw [List.map_cons, allSome, allSome_map xs]
theorem allSome_rls {vs : List V} {xs : List (Option α)} {ys : List α} (r : RLs (rO R) K G vs xs) (h : allSome xs = some ys) : RLs R K G vs ys := by
  induction r generalizing ys with
  | nil => cases h; exact .nil
  | @cons v x vs xs r t ih =>
    cases x with
    | none => cases h
    | some a =>
      rw [allSome] at h
      cases hx : allSome xs with
      | none => rw [hx] at h; cases h
      | some zs => rw [hx] at h; cases h; exact .cons r.2 (ih hx)
theorem e_mapGet {m : Res (List (Option α))} (h : EvE K fm te σ G O (rK (rO R)) m) : EvE K fm te σ G O (rK R) (m.bind fun xs => optM (allSome xs)) := fun G1 H1 e k Q q =>
  h G1 H1 e k _ (Res.wp_mono (Res.wp_bind q) (fun xs q v G2 H2 s ⟨p, vs, e1, h1, r1⟩ => by
    cases hx : allSome xs with
    | none => rw [hx] at q; exact q.elim
    | some ys => rw [hx] at q; exact q v G2 H2 s ⟨p, vs, e1, h1, allSome_rls r1 hx⟩) fun _ _ z => z)

/-! ### range objects -/
def rR : Rp (Int × Int) := ⟨fun _ G v a => ∃ p, v = .ref p ∧ G p = some (.rng a.1 a.2), fun e ⟨p, a, b⟩ => ⟨p, a, e _ _ b⟩⟩
theorem cr_range1 {X : Cx} : CallR X (.type "range") (fun vs H Q => ∃ j, vs = [V.int j] ∧ ∀ p, H p = none → Q (.ref p) (upd H p (.rng 0 j))) := by
  intro pins s σ H xs us Q I r h
  obtain ⟨j, rfl, q⟩ := h
  cases r with
  | cons r rr =>
    cases rr
    obtain ⟨t, rfl⟩ := r
    refine call_range_1 ⟨.ref s.heap.objs.size, upd H s.heap.objs.size (.rng 0 j), I.laid (t' := s.toks + 1 + 1) (fun b o e => Heap.get?_push_of_some _ e) (Nat.le_refl _) ?_, rfl, q _ (I.hok.fresh (Nat.le_refl _))⟩
    exact ⟨_, _, _, Heap.get?_push_size _ rfl⟩
theorem e_range1 {a : Res Int} (h : EvE K fm te σ G O zI a) : EvE K fm (tCB (fun vs H Q => ∃ j, vs = [V.int j] ∧ ∀ p, H p = none → Q (.ref p) (upd H p (.rng 0 j))) (tCons te tNil)) σ G O rR (a.bind fun j => .ok (0, j)) :=
  e_cb (a_one h) fun G1 H1 x vs k ⟨v, ev, r⟩ Q q => by
    subst ev; cases (show v = .int x from r)
    exact ⟨x, rfl, fun p hp => q _ _ _ (Stp.new k.gh hp) ⟨p, rfl, upd_same⟩⟩
def iRngO (te : TE) : TI := fun σ H R => te σ H fun x H1 => ∃ p lo hi, x = .ref p ∧ H1 p = some (.rng lo hi) ∧ -(2 ^ 62) ≤ lo ∧ lo < 2 ^ 62 ∧ -(2 ^ 62) ≤ hi ∧ hi < 2 ^ 62 ∧ R (Itr lo (hi - lo).toNat) H1
theorem pi_rngO {X : Cx} {tg e : Expr} (he : PE X e te) : PI X tg e (iRngO te) := by
  refine ⟨fun pins s σ H R I h => ?_⟩
  refine thn (he.run pins s σ H _ I h) fun v s1 ⟨x, H1, I1, r1, q1⟩ => ?_
  obtain ⟨p, lo, hi, e1, hp, h1, h2, h3, h4, q⟩ := q1
  subst e1
  cases r1
  obtain ⟨t, u, w, hg⟩ := I1.hok p _ hp
  refine wpAny_pyIter_range (r := p) (show IsRange s1.heap p lo hi 1 t u w from hg) (small_one h1 h2 h3 h4) ?_
  refine ⟨s1.heap.objs.size, [s1.heap.objs.size], _, _, H1, rfl, I1.kept (t' := s1.toks) fun b o e => Heap.get?_push_of_some _ e, turn_range _ lo (hi - lo).toNat, ?_, fun b hb => ?_, q⟩
  · have e1 : lo + ((0 : Nat) : Int) * 1 = lo := by simp
    have e2 : (((hi - lo).toNat : Nat) : Int) - ((0 : Nat) : Int) = Builtin.Range.rangeSize lo hi 1 := by rw [rangeSize_one]; split <;> omega
    show IsRangeIter _ _ (lo + ((0 : Nat) : Int) * 1) ((((hi - lo).toNat : Nat) : Int) - ((0 : Nat) : Int)) 1
    rw [e1, e2]
    exact Heap.get?_push_size _ rfl
  · have e : b = s1.heap.objs.size := by simpa using hb
    subst e
    exact I1.fpOk (Nat.le_refl _) (I1.hok.fresh (Nat.le_refl _))
def rngOM (a : Res (Int × Int)) : Res (List Int) := a.bind fun p => if (inR p.1 && inR p.2) = true then .ok (rgL p.1 (p.2 - p.1).toNat) else .stuck
theorem i_rngO {a : Res (Int × Int)} (h : EvE K fm te σ G O rR a) : EvI K fm (iRngO te) σ G O [] zI (rngOM a) := fun G1 H1 e k Q q =>
  h G1 H1 e k _ (Res.wp_mono (Res.wp_bind q) (fun x q v G2 H2 s ⟨p, ev, hp⟩ => by
    cases hj : (inR x.1 && inR x.2) with
    | false => rw [hj] at q; exact q.elim
    | true =>
      rw [hj, if_pos rfl] at q
      simp only [inR, Bool.and_eq_true, decide_eq_true_eq] at hj
      exact ⟨p, x.1, x.2, ev, s.gh _ _ hp, hj.1.1, hj.1.2, hj.2.1, hj.2.2, q _ G2 H2 s (itr_ok x.1 _)⟩) fun _ _ z => z)

/-! ### isinstance, answers that the kind of the value tells -/
/-- of what class the value is, by the representation -/
def TyIs (K : PySem.W.Frag) (R : Rp α) (f : α → String) : Prop := ∀ G H v x, Same G H → R.r K G v x → TyX K H v (.type (f x))
theorem rd_ty {H : Hp} {p : Addr} {vs : List V} (h : SqL K H p vs) : TyX K H (.ref p) (.type "list") := by
  rcases h with (h | ⟨o, h⟩) | ⟨o, its, n, h, hc, _⟩
  · exact .base (.lst h)
  · exact .base (.frz h)
  · exact .kList h hc
theorem rd_tyT {H : Hp} {p : Addr} {vs : List V} (h : SqT K H p vs) : TyX K H (.ref p) (.type "tuple") := by
  rcases h with (h | ⟨o, h⟩) | ⟨o, its, n, h, hc, _⟩
  · exact .base (.tup h)
  · exact .fTuple h
  · exact .kTuple h hc
theorem ty_I : TyIs K zI fun _ => "int" := fun G H v x e h => by cases (show v = .int x from h); exact .base (.int x)
theorem ty_B : TyIs K rB fun _ => "bool" := fun G H v x e h => by cases (show v = .bl x from h); exact .base (.bl x)
theorem ty_S : TyIs K rS fun _ => "str" := fun G H v x e h => by cases (show v = .str x from h); exact .base (.str x)
theorem ty_OI : TyIs K (rO zI) fun o => match o with | none => "NoneType" | some _ => "int" := fun G H v x e h => by
  cases x with
  | none => cases (show v = .non from h); exact .base .non
  | some a => cases (show v = .int a from h.2); exact .base (.int a)
theorem ty_K : TyIs K (rK R) fun _ => "list" := fun G H v x e ⟨p, vs, ev, h, _⟩ => by subst ev; exact .base (.lst (e _ _ h))
theorem ty_L : TyIs K (rL R) fun _ => "list" := fun G H v x e ⟨p, vs, ev, h, _⟩ => by subst ev; exact rd_ty (same_l e h)
theorem ty_T : TyIs K (rT R) fun _ => "tuple" := fun G H v x e ⟨p, vs, ev, h, _⟩ => by subst ev; exact rd_tyT (same_t e h)
theorem ty_P {S : Rps α} : TyIs K (rP S) fun _ => "tuple" := fun G H v x e ⟨p, vs, ev, h, _⟩ => by subst ev; exact rd_tyT (same_t e h)
theorem e_isi {f : α → String} {c : String} {g : α → Bool} (ty : TyIs K R f) (hg : ∀ x, kitB (f x) c = some (g x)) (h : EvE K fm te σ G O R m) :
    EvE K fm (tCB (rIsi K) (tCons te (tCons (tC (.ty c)) tNil))) σ G O rB (m.bind fun x => .ok (g x)) := fun G1 H1 e k Q q =>
  h G1 H1 e k _ (Res.wp_mono (Res.wp_bind q) (fun x q v G2 H2 s r => ⟨v, .ty c, .type (f x), .type c, g x, rfl, .ty c, ty _ _ _ _ s.gh r, kit_ty (hg x), q _ G2 H2 s rfl⟩) fun _ _ z => z)

/-! ### list.index -/
def indexF {α : Type} [DecidableEq α] (xs : List α) (x : α) : Res Int := if xs.findIdx (fun y => decide (y = x)) < xs.length then .ok ((xs.findIdx fun y => decide (y = x)) : Nat) else .stuck
def indexM {α : Type} [DecidableEq α] : Res (List α) → Res α → Res Int := Res.bind2 indexF
theorem e_index [DecidableEq α] (s : Sr R) {m : Res (List α)} {n : Res α} (ha : EvE K fm ta σ G O (rL R) m) (hb : EvE K fm tb σ G O R n) : EvE K fm (tBM K "list" (rIndex K) ta (tCons tb tNil)) σ G O zI (indexM m n) := fun G1 H1 e k Q q =>
  ha G1 H1 e k _ (Res.wp_mono (Res.wp_bind q) (fun xs q v G2 H2 s2 ⟨p, vs, ev, hq, rs⟩ => by
    subst ev
    refine ⟨.inl ⟨rfl, vs, same_l s2.gh hq⟩, ?_⟩
    refine hb G2 H2 (e.trans s2.gg) (k.stp s2) _ (Res.wp_mono (Res.wp_bind q) (fun y q w G3 H3 s3 rw => ?_) fun _ _ z => z)
    cases s.is rw; cases sr_vals s rs
    rw [indexF] at q
    split at q
    · rename_i hl
      refine ⟨p, _, s.enc y, xs.findIdx (fun z => decide (z = y)), s.enc (xs[xs.findIdx (fun z => decide (z = y))]), rfl, rfl, same_l s3.hh (same_l s2.gh hq), s.fl y, sr_all s xs, by simp [hl], ?_, ?_, q _ G3 H3 (s2.trans s3) rfl⟩
      · rw [s.eq]; exact List.findIdx_getElem (w := hl)
      · intro mm z hmm hz
        rw [List.getElem?_map] at hz
        have hl' : mm < xs.length := Nat.lt_trans hmm hl
        rw [List.getElem?_eq_getElem hl'] at hz
        cases hz
        rw [s.eq]
        have := List.not_of_lt_findIdx hmm
        simpa using this
    · exact q.elim) fun _ _ z => z)
end
end Mw

namespace Mw
open PySem PySem.Spec PyProof.Rows L2
def appM {α ρ : Type} (xs : List α) (m : Res α) (mk : List α → Res ρ) : Res ρ := m.bind fun y => if xs.length < lim then mk (xs ++ [y]) else .stuck
theorem appM_ok {α ρ : Type} (xs : List α) (y : α) (mk : List α → Res ρ) (h : xs.length < lim) : appM xs (.ok y) mk = mk (xs ++ [y]) := by
  show (if xs.length < lim then mk (xs ++ [y]) else .stuck) = _
  rw [if_pos h]
def setM {α ρ : Type} (xs : List α) (n : Res Int) (m : Res α) (mk : List α → Res ρ) : Res ρ := m.bind fun y => n.bind fun z => (setF xs z y).bind mk
def augM {ρ : Type} (f : Int → Int → Int) (x : Int) (m : Res Int) (mk : Int → Res ρ) : Res ρ := m.bind fun y => mk (f x y)
def Lp.el {S π ρ : Type} (N : S → Res ρ) (R : π → Res ρ) : Lp S π → Res ρ
  | .nx s => N s
  | .rt r => R r
section
variable {α β γ δ ρ : Type} {K : PySem.W.Frag} {fm : Fm} {σ : L2.St} {G G' H H' : Hp} {O : Own}
variable {te ta tb tc : TE} {R : Rp α} {S : Rp β} {T : Rp γ} {m : Res α} {n : Res β}
variable {D : Ends} {tr tt tu tw : TS} {Q : ρ → Prop}
theorem g_ret0 (he : EvE K fm te σ G O R m) (hs : Hs fm G O H) {Q : α → Prop} (hm : m.wp Q fm.xw)
    (k : ∀ r v G' H', Hs fm G' O H' → R.r K G' v r → Q r → D.rt v H') : tSeq (tRet te) tr D σ H :=
  he G H (Same.refl _) hs.kn _ (Res.wp_mono hm (fun x q v G2 H2 s r => k x v G2 H2 (hs.stp s) r q) fun _ _ z => z)
theorem Hs.ne (h : Hs fm G O H) (i j : Nat) {a b : Addr} {o u : HO} (hi : O[i]? = some (a, o)) (hj : O[j]? = some (b, u)) (hij : i ≠ j) : b ≠ a := fun e => hij (nodup_at h.nd hi hj e.symm)
theorem Hs.none2 (h : Hs fm G O H) (i j : Nat) {a b : Addr} {o u : HO} (hi : O[i]? = some (a, o)) (hj : O[j]? = some (b, u)) (hij : i ≠ j) : upd G a o b = none := by
  rw [upd_ne (h.ne i j hi hj hij)]
  exact (h.at j hj).2.1
theorem nx_of (h : D.nx σ H) : tNext D σ H := h
theorem s_pass (h : tr D σ H) : tSeq tNext tr D σ H := h
theorem g_app {i : Nat} (j : Nat) {l : Addr} {vs : List V} {xs : List α} {m : Res α} {mk : List α → Res ρ} (hx : σ[i]? = some (some (.ref l))) (hj : O[j]? = some (l, .lst vs)) (hr : RLs R K G vs xs) (he : EvE K fm te σ G O R m) (hs : Hs fm G O H)
    (hm : (appM xs m mk).wp Q fm.xw)
    (k : ∀ y v G' H', Same G G' → Hs fm G' (O.set j (l, .lst (vs ++ [v]))) H' → RLs R K G' (vs ++ [v]) (xs ++ [y]) → (mk (xs ++ [y])).wp Q fm.xw → tr D σ H') : tSeq (tDrop (tBM K "list" rAppend (tVar i) (tCons te tNil))) tr D σ H := s_append j hx hj hr he hs hm k
theorem g_set {i : Nat} (j : Nat) {l : Addr} {vs : List V} {xs : List α} {m : Res α} {n : Res Int} {mk : List α → Res ρ} (hx : σ[i]? = some (some (.ref l))) (hj : O[j]? = some (l, .lst vs)) (hr : RLs R K G vs xs) (he : EvE K fm te σ G O R m) (hi : EvE K fm ta σ G O zI n) (hs : Hs fm G O H)
    (hm : (setM xs n m mk).wp Q fm.xw)
    (k : ∀ ys ws G' H', Same G G' → Hs fm G' (O.set j (l, .lst ws)) H' → RLs R K G' ws ys → (mk ys).wp Q fm.xw → tr D σ H') : tSeq (tAsg te (gSub (tVar i) ta rSetL)) tr D σ H := s_setL j hx hj hr he hi hs hm k
theorem g_aug {i : Nat} {f : Int → Int → Int} {x : Int} {m : Res Int} {mk : Int → Res ρ} (hx : σ[i]? = some (some (.int x))) (he : EvE K fm te σ G O zI m) (hs : Hs fm G O H) (hm : (augM f x m mk).wp Q fm.xw)
    (k : ∀ y G' H', Same G G' → Hs fm G' O H' → (mk (f x y)).wp Q fm.xw → tr D (σ.set i (some (.int (f x y)))) H') : tSeq (tAug i te (ipI f)) tr D σ H := s_aug hx he hs hm k
theorem g_forB {Oi : Own} {S : Type} {Sr : Type} {Rr : Rp Sr} {ti : TI} {g : TG} {Ss : Rps α} {is : List Nat} {m : Res (List α)} {f : α → S → Res (Tn S Sr)} {N : S → Res ρ} {Rt : Sr → Res ρ} {s0 : S} (W : S → L2.St → Hp → Own → Prop)
    (hi : EvI K fm ti σ G O Oi R m) (hO : ∀ s σ G O, W s σ G O → ∀ p ∈ Oi, p ∈ O) (tg : Tgt K g R Ss is) (hs : Hs fm G O H) (hm : ((m.bind fun xs => forB f xs s0).bind (Lp.el N Rt)).wp Q fm.xw) (h0 : W s0 σ G O)
    (hr : ∀ r v G2 O2 H2, Hs fm G2 O2 H2 → Rr.r K G2 v r → (Rt r).wp Q fm.xw → D.rt v H2)
    (hb : ∀ x s σ' G1 G' O' H' vs (D' : Ends) (Qb : Tn S Sr → Prop), Same G G' → W s σ' G1 O' → Same G1 G' → Hs fm G' O' H' → Ss.r K G' vs x → TEnds K fm G' W Rr Qb D' → (f x s).wp Qb fm.xw → tw D' (setL σ' is vs) H')
    (hn : ∀ s σ' G1 G' O' H', Same G G' → W s σ' G1 O' → Same G1 G' → Hs fm G' O' H' → (N s).wp Q fm.xw → tr D σ' H') : tSeq (tFor ti g tw) tr D σ H :=
  s_forB (π := Unit) W hi hO tg hs hm h0 hb hn hr
theorem g_forM {Oi : Own} {S : Type} {ti : TI} {g : TG} {Ss : Rps α} {is : List Nat} {m : Res (List α)} {f : α → S → Res S} {mk : S → Res ρ} {s0 : S} (W : S → L2.St → Hp → Own → Prop)
    (hi : EvI K fm ti σ G O Oi R m) (hO : ∀ s σ G O, W s σ G O → ∀ p ∈ Oi, p ∈ O) (tg : Tgt K g R Ss is) (hs : Hs fm G O H) (hm : ((m.bind fun xs => forM f xs s0).bind mk).wp Q fm.xw) (h0 : W s0 σ G O)
    (hb : ∀ x s σ' G1 G' O' H' vs (D' : Ends) (Qb : S → Prop), Same G G' → W s σ' G1 O' → Same G1 G' → Hs fm G' O' H' → Ss.r K G' vs x → MEnds fm G' W Qb D' → (f x s).wp Qb fm.xw → tw D' (setL σ' is vs) H')
    (hn : ∀ s σ' G1 G' O' H', Same G G' → W s σ' G1 O' → Same G1 G' → Hs fm G' O' H' → (mk s).wp Q fm.xw → tr D σ' H') : tSeq (tFor ti g tw) tr D σ H := s_forM W hi hO tg hs hm h0 hb hn
theorem g_whB {S : Type} {Sr : Type} {Rr : Rp Sr} {c : TT} {mc : S → Res Bool} {f : S → Res (Tn S Sr)} {N : S → Res ρ} {Rt : Sr → Res ρ} {s0 : S} {fuel : Nat} (W : S → L2.St → Hp → Own → Prop)
    (hs : Hs fm G O H) (hm : ((whB mc f fuel s0).bind (Lp.el N Rt)).wp Q fm.xw) (h0 : W s0 σ G O)
    (hr : ∀ r v G2 O2 H2, Hs fm G2 O2 H2 → Rr.r K G2 v r → (Rt r).wp Q fm.xw → D.rt v H2)
    (hc : ∀ s σ' G1 G' O', Same G G' → W s σ' G1 O' → Same G1 G' → EvT fm c σ' G' O' (mc s))
    (hb : ∀ s σ' G1 G' O' H' (D' : Ends) (Qb : Tn S Sr → Prop), Same G G' → W s σ' G1 O' → Same G1 G' → Hs fm G' O' H' → TEnds K fm G' W Rr Qb D' → (f s).wp Qb fm.xw → tw D' σ' H')
    (hn : ∀ s σ' G1 G' O' H', Same G G' → W s σ' G1 O' → Same G1 G' → Hs fm G' O' H' → (N s).wp Q fm.xw → tr D σ' H') : tSeq (tWhile c tw) tr D σ H := s_whB W hs hm h0 hc hb hn hr
end

/-! ### the same over a word that is not opened by itself -/
theorem Wp.ofSp {α : Type} {m : Res α} {Q : α → Prop} {F G0 : Hp} {E : XK} {cl : Nat → Addr} (h : Wp m Q fun c fs => ∀ H' d, Same F H' → XdOk fs d H' → E (.ref (cl c)) d H') : Wp m Q (Fm.xw ⟨F, G0, E, cl⟩) := .mk h.out
section
variable {α β γ δ ρ : Type} {K : PySem.W.Frag} {fm : Fm} {σ : L2.St} {G G' H H' : Hp} {O : Own}
variable {te ta tb tc : TE} {R : Rp α} {S : Rp β} {T : Rp γ} {m : Res α} {n : Res β}
variable {D : Ends} {tr tt tu tw : TS} {Q : ρ → Prop}
theorem w_asg {g : TG} {Ss : Rps α} {is : List Nat} {mk : α → Res ρ} (tg : Tgt K g R Ss is) (he : EvE K fm te σ G O R m) (hs : Hs fm G O H) (hm : Wp (m.bind mk) Q fm.xw)
    (k : ∀ x vs G' H', Same G G' → Hs fm G' O H' → Ss.r K G' vs x → Wp (mk x) Q fm.xw → tr D (setL σ is vs) H') : tSeq (tAsg te g) tr D σ H :=
  s_asg tg he hs hm.out fun x vs G' H' a b c d => k x vs G' H' a b c (.mk d)
theorem w_asgN {i : Nat} {m : Res (List α)} {mk : List α → Res ρ} (he : EvN K fm te σ G O R m) (hs : Hs fm G O H) (hm : Wp (m.bind mk) Q fm.xw)
    (k : ∀ xs p vs G' H', Same G G' → Hs fm G' ((p, .lst vs) :: O) H' → RLs R K G' vs xs → Wp (mk xs) Q fm.xw → tr D (σ.set i (some (.ref p))) H') : tSeq (tAsg te (gName i)) tr D σ H :=
  s_asgN he hs hm.out fun x p vs G' H' a b c d => k x p vs G' H' a b c (.mk d)
theorem w_aug {i : Nat} {f : Int → Int → Int} {x : Int} {m : Res Int} {mk : Int → Res ρ} (hx : σ[i]? = some (some (.int x))) (he : EvE K fm te σ G O zI m) (hs : Hs fm G O H) (hm : Wp (augM f x m mk) Q fm.xw)
    (k : ∀ y G' H', Same G G' → Hs fm G' O H' → Wp (mk (f x y)) Q fm.xw → tr D (σ.set i (some (.int (f x y)))) H') : tSeq (tAug i te (ipI f)) tr D σ H :=
  g_aug hx he hs hm.out fun y G' H' a b c => k y G' H' a b (.mk c)
theorem w_drop {mk : α → Res ρ} (he : EvE K fm te σ G O R m) (hs : Hs fm G O H) (hm : Wp (m.bind mk) Q fm.xw)
    (k : ∀ x G' H', Same G G' → Hs fm G' O H' → Wp (mk x) Q fm.xw → tr D σ H') : tSeq (tDrop te) tr D σ H := s_drop he hs hm.out fun x G' H' a b c => k x G' H' a b (.mk c)
theorem w_ret {kr : α → ρ} (he : EvE K fm te σ G O R m) (hs : Hs fm G O H) (hm : Wp (m.bind fun r => .ok (kr r)) Q fm.xw)
    (k : ∀ r v G' H', Hs fm G' O H' → R.r K G' v r → Q (kr r) → D.rt v H') : tSeq (tRet te) tr D σ H := s_ret he hs hm.out k
theorem w_ret0 (he : EvE K fm te σ G O R m) (hs : Hs fm G O H) {Q : α → Prop} (hm : Wp m Q fm.xw)
    (k : ∀ r v G' H', Hs fm G' O H' → R.r K G' v r → Q r → D.rt v H') : tSeq (tRet te) tr D σ H := g_ret0 he hs hm.out k
theorem w_if {c : TT} {mc : Res Bool} {a b : Res ρ} (hc : EvT fm c σ G O mc) (hs : Hs fm G O H) (hm : Wp (Res.ite mc a b) Q fm.xw)
    (h1 : ∀ G' H', Same G G' → Hs fm G' O H' → Wp a Q fm.xw → tt { D with nx := tr D } σ H') (h2 : ∀ G' H', Same G G' → Hs fm G' O H' → Wp b Q fm.xw → tu { D with nx := tr D } σ H') : tSeq (tIfS c tt tu) tr D σ H :=
  s_if hc hs hm.out (fun G' H' a b c => h1 G' H' a b (.mk c)) fun G' H' a b c => h2 G' H' a b (.mk c)
theorem w_ifJ {J : Type} {c : TT} {mc : Res Bool} {a b : Res ρ} {k : J → Res ρ} (W : J → L2.St → Hp → Own → Prop) (hc : EvT fm c σ G O mc) (hs : Hs fm G O H) (hm : Wp (Res.ite mc a b) Q fm.xw)
    (hk : ∀ s σ' G1 G' O' H', Same G G' → W s σ' G1 O' → Same G1 G' → Hs fm G' O' H' → Wp (k s) Q fm.xw → tr D σ' H')
    (h1 : ∀ G' H', JEnds fm G' W (fun s => Wp (k s) Q fm.xw) (tr D) → Same G G' → Hs fm G' O H' → Wp a Q fm.xw → tt { D with nx := tr D } σ H')
    (h2 : ∀ G' H', JEnds fm G' W (fun s => Wp (k s) Q fm.xw) (tr D) → Same G G' → Hs fm G' O H' → Wp b Q fm.xw → tu { D with nx := tr D } σ H') : tSeq (tIfS c tt tu) tr D σ H :=
  w_if hc hs hm (fun G' H' e hs' q => h1 G' H' ⟨fun s σ G1 G2 O H a b c d e' => hk s σ G1 G2 O H (e.trans a) b c d e'⟩ e hs' q) fun G' H' e hs' q => h2 G' H' ⟨fun s σ G1 G2 O H a b c d e' => hk s σ G1 G2 O H (e.trans a) b c d e'⟩ e hs' q
theorem w_app {i : Nat} (j : Nat) {l : Addr} {vs : List V} {xs : List α} {m : Res α} {mk : List α → Res ρ} (hx : σ[i]? = some (some (.ref l))) (hj : O[j]? = some (l, .lst vs)) (hr : RLs R K G vs xs) (he : EvE K fm te σ G O R m) (hs : Hs fm G O H)
    (hm : Wp (appM xs m mk) Q fm.xw)
    (k : ∀ y v G' H', Same G G' → Hs fm G' (O.set j (l, .lst (vs ++ [v]))) H' → RLs R K G' (vs ++ [v]) (xs ++ [y]) → Wp (mk (xs ++ [y])) Q fm.xw → tr D σ H') : tSeq (tDrop (tBM K "list" rAppend (tVar i) (tCons te tNil))) tr D σ H :=
  g_app j hx hj hr he hs hm.out fun y v G' H' a b c d => k y v G' H' a b c (.mk d)
theorem w_set {i : Nat} (j : Nat) {l : Addr} {vs : List V} {xs : List α} {m : Res α} {n : Res Int} {mk : List α → Res ρ} (hx : σ[i]? = some (some (.ref l))) (hj : O[j]? = some (l, .lst vs)) (hr : RLs R K G vs xs) (he : EvE K fm te σ G O R m) (hi : EvE K fm ta σ G O zI n) (hs : Hs fm G O H)
    (hm : Wp (setM xs n m mk) Q fm.xw)
    (k : ∀ ys ws G' H', Same G G' → Hs fm G' (O.set j (l, .lst ws)) H' → RLs R K G' ws ys → Wp (mk ys) Q fm.xw → tr D σ H') : tSeq (tAsg te (gSub (tVar i) ta rSetL)) tr D σ H :=
  g_set j hx hj hr he hi hs hm.out fun y v G' H' a b c d => k y v G' H' a b c (.mk d)
theorem w_forB {Oi : Own} {S : Type} {Sr : Type} {Rr : Rp Sr} {ti : TI} {g : TG} {Ss : Rps α} {is : List Nat} {m : Res (List α)} {f : α → S → Res (Tn S Sr)} {N : S → Res ρ} {Rt : Sr → Res ρ} {s0 : S} (W : S → L2.St → Hp → Own → Prop)
    (hi : EvI K fm ti σ G O Oi R m) (hO : ∀ s σ G O, W s σ G O → ∀ p ∈ Oi, p ∈ O) (tg : Tgt K g R Ss is) (hs : Hs fm G O H) (hm : Wp ((m.bind fun xs => forB f xs s0).bind (Lp.el N Rt)) Q fm.xw) (h0 : W s0 σ G O)
    (hr : ∀ r v G2 O2 H2, Hs fm G2 O2 H2 → Rr.r K G2 v r → (Rt r).wp Q fm.xw → D.rt v H2)
    (hb : ∀ x s σ' G1 G' O' H' vs (D' : Ends) (Qb : Tn S Sr → Prop), Same G G' → W s σ' G1 O' → Same G1 G' → Hs fm G' O' H' → Ss.r K G' vs x → TEnds K fm G' W Rr Qb D' → Wp (f x s) Qb fm.xw → tw D' (setL σ' is vs) H')
    (hn : ∀ s σ' G1 G' O' H', Same G G' → W s σ' G1 O' → Same G1 G' → Hs fm G' O' H' → Wp (N s) Q fm.xw → tr D σ' H') : tSeq (tFor ti g tw) tr D σ H :=
  g_forB W hi hO tg hs hm.out h0 hr (fun x s σ' G1 G' O' H' vs D' Qb a b c d e f g => hb x s σ' G1 G' O' H' vs D' Qb a b c d e f (.mk g)) fun s σ' G1 G' O' H' a b c d e => hn s σ' G1 G' O' H' a b c d (.mk e)
theorem w_forM {Oi : Own} {S : Type} {ti : TI} {g : TG} {Ss : Rps α} {is : List Nat} {m : Res (List α)} {f : α → S → Res S} {mk : S → Res ρ} {s0 : S} (W : S → L2.St → Hp → Own → Prop)
    (hi : EvI K fm ti σ G O Oi R m) (hO : ∀ s σ G O, W s σ G O → ∀ p ∈ Oi, p ∈ O) (tg : Tgt K g R Ss is) (hs : Hs fm G O H) (hm : Wp ((m.bind fun xs => forM f xs s0).bind mk) Q fm.xw) (h0 : W s0 σ G O)
    (hb : ∀ x s σ' G1 G' O' H' vs (D' : Ends) (Qb : S → Prop), Same G G' → W s σ' G1 O' → Same G1 G' → Hs fm G' O' H' → Ss.r K G' vs x → MEnds fm G' W Qb D' → Wp (f x s) Qb fm.xw → tw D' (setL σ' is vs) H')
    (hn : ∀ s σ' G1 G' O' H', Same G G' → W s σ' G1 O' → Same G1 G' → Hs fm G' O' H' → Wp (mk s) Q fm.xw → tr D σ' H') : tSeq (tFor ti g tw) tr D σ H :=
  g_forM W hi hO tg hs hm.out h0 (fun x s σ' G1 G' O' H' vs D' Qb a b c d e f g => hb x s σ' G1 G' O' H' vs D' Qb a b c d e f (.mk g)) fun s σ' G1 G' O' H' a b c d e => hn s σ' G1 G' O' H' a b c d (.mk e)
theorem w_whB {S : Type} {Sr : Type} {Rr : Rp Sr} {c : TT} {mc : S → Res Bool} {f : S → Res (Tn S Sr)} {N : S → Res ρ} {Rt : Sr → Res ρ} {s0 : S} {fuel : Nat} (W : S → L2.St → Hp → Own → Prop)
    (hs : Hs fm G O H) (hm : Wp ((whB mc f fuel s0).bind (Lp.el N Rt)) Q fm.xw) (h0 : W s0 σ G O)
    (hr : ∀ r v G2 O2 H2, Hs fm G2 O2 H2 → Rr.r K G2 v r → (Rt r).wp Q fm.xw → D.rt v H2)
    (hc : ∀ s σ' G1 G' O', Same G G' → W s σ' G1 O' → Same G1 G' → EvT fm c σ' G' O' (mc s))
    (hb : ∀ s σ' G1 G' O' H' (D' : Ends) (Qb : Tn S Sr → Prop), Same G G' → W s σ' G1 O' → Same G1 G' → Hs fm G' O' H' → TEnds K fm G' W Rr Qb D' → Wp (f s) Qb fm.xw → tw D' σ' H')
    (hn : ∀ s σ' G1 G' O' H', Same G G' → W s σ' G1 O' → Same G1 G' → Hs fm G' O' H' → Wp (N s) Q fm.xw → tr D σ' H') : tSeq (tWhile c tw) tr D σ H :=
  g_whB W hs hm.out h0 hr hc (fun s σ' G1 G' O' H' D' Qb a b c d e f => hb s σ' G1 G' O' H' D' Qb a b c d e (.mk f)) fun s σ' G1 G' O' H' a b c d e => hn s σ' G1 G' O' H' a b c d (.mk e)
end
/-- a def as its callers take it -/
structure Cal (P : Program) (w : World) (K : PySem.W.Frag) (mg : Str → Option Value) (base : Heap) (x : Str) (k : Nat) (ps : List Str) (sp : Sp) where
  f : Addr
  fd : FuncData
  ok : FnOk P w K mg base (L2.CX P w) k f fd ps sp
  mgx : mg x = some (.ref f)
  kp : PySem.W.keepIn K (.ref f) = true
  bd : Binds K fd ps []
theorem b_len : bootBuiltins "len" = some (.builtin "len") := by decide +kernel
theorem b_sum : bootBuiltins "sum" = some (.builtin "sum") := by decide +kernel
theorem b_any : bootBuiltins "any" = some (.builtin "any") := by decide +kernel
theorem b_all : bootBuiltins "all" = some (.builtin "all") := by decide +kernel
theorem b_max : bootBuiltins "max" = some (.builtin "max") := by decide +kernel
theorem b_min : bootBuiltins "min" = some (.builtin "min") := by decide +kernel
theorem b_isinstance : bootBuiltins "isinstance" = some (.builtin "isinstance") := by decide +kernel
theorem b_int : bootBuiltins "int" = some (.type "int") := by decide +kernel
theorem b_list : bootBuiltins "list" = some (.type "list") := by decide +kernel
theorem b_tuple : bootBuiltins "tuple" = some (.type "tuple") := by decide +kernel
theorem b_range : bootBuiltins "range" = some (.type "range") := by decide +kernel
theorem b_bool : bootBuiltins "bool" = some (.type "bool") := by decide +kernel
theorem b_str : bootBuiltins "str" = some (.type "str") := by decide +kernel
end Mw
namespace Mw
open PySem L2
theorem isi_OI_int : ∀ x : Option Int, kitB (match x with | none => "NoneType" | some _ => "int") "int" = some x.isSome
  | none => (by decide +kernel : kitB "NoneType" "int" = some false)
  | some _ => (by decide +kernel : kitB "int" "int" = some true)
theorem isi_OI_bool : ∀ x : Option Int, kitB (match x with | none => "NoneType" | some _ => "int") "bool" = some false
  | none => (by decide +kernel : kitB "NoneType" "bool" = some false)
  | some _ => (by decide +kernel : kitB "int" "bool" = some false)
end Mw

namespace Mw
open PySem PySem.Spec PyProof.Rows L2
/-! ### dicts of one's own -/
def dget {κ β : Type} [DecidableEq κ] (xs : List (κ × β)) (k : κ) : Option β := (xs.find? fun p => decide (p.1 = k)).map (·.2)
def dput {κ β : Type} [DecidableEq κ] (xs : List (κ × β)) (k : κ) (v : β) : List (κ × β) := if (xs.any fun p => decide (p.1 = k)) = true then xs.map fun p => if p.1 = k then (p.1, v) else p else xs ++ [(k, v)]
/-- keys that are one of the layer's -/
structure Ke (κ : Type) [DecidableEq κ] where
  enc : κ → Key
  inj : ∀ {a b}, enc a = enc b → a = b
  rp : Rp κ
  is : ∀ {K G v k}, rp.r K G v k ↔ v = kV (enc k)
def keI : Ke Int := ⟨.inl, fun h => Sum.inl.inj h, zI, Iff.rfl⟩
def keS : Ke Str := ⟨.inr, fun h => Sum.inr.inj h, rS, Iff.rfl⟩
section
variable {α β γ δ ρ κ : Type} [DecidableEq κ] {K : PySem.W.Frag} {fm : Fm} {σ : L2.St} {G G' H H' : Hp} {O : Own}
variable {te ta tb tc : TE} {R : Rp α} {S : Rp β} {T : Rp γ} {m : Res α} {n : Res β}
variable {D : Ends} {tr tt tu tw : TS} {Q : ρ → Prop}
abbrev RKs (k : Ke κ) (R : Rp β) (K : PySem.W.Frag) (G : Hp) : List (Key × V) → List (κ × β) → Prop := Paired fun p x => p.1 = k.enc x.1 ∧ R.r K G p.2 x.2
theorem RKs.mono {k : Ke κ} {R : Rp β} {vs : List (Key × V)} {xs : List (κ × β)} (e : Same G G') (h : RKs k R K G vs xs) : RKs k R K G' vs xs := Paired.mapP h fun _ _ q => ⟨q.1, R.mono e q.2⟩
theorem RKs.any {k : Ke κ} {R : Rp β} {vs : List (Key × V)} {xs : List (κ × β)} (h : RKs k R K G vs xs) (y : κ) : (vs.any fun p => decide (p.1 = k.enc y)) = xs.any fun p => decide (p.1 = y) := by
  induction h with
  | nil => rfl
  | cons r t ih => rw [List.any_cons, List.any_cons, ih, r.1]; congr 1; exact decide_eq_decide.mpr ⟨k.inj, fun e => by rw [e]⟩
theorem RKs.get {k : Ke κ} {R : Rp β} {vs : List (Key × V)} {xs : List (κ × β)} (h : RKs k R K G vs xs) (y : κ) :
    match dget xs y with | some b => ∃ v, valV vs (k.enc y) = some v ∧ R.r K G v b | none => valV vs (k.enc y) = none := by
  induction h with
  | nil => rfl
  | @cons p x vs xs r t ih =>
    by_cases e : x.1 = y
    · have : dget (x :: xs) y = some x.2 := by simp [dget, List.find?_cons, e]
      rw [this]
      exact ⟨p.2, valV_pos (r.1.trans (by rw [e])), r.2⟩
    · have : dget (x :: xs) y = dget xs y := by simp [dget, List.find?_cons, e]
      rw [this, valV_neg (fun q => e (k.inj (r.1.symm.trans q)))]
      exact ih
theorem RKs.isSome {k : Ke κ} {R : Rp β} {vs : List (Key × V)} {xs : List (κ × β)} (h : RKs k R K G vs xs) (y : κ) : (valV vs (k.enc y)).isSome = (dget xs y).isSome := by
  have q := h.get y
  cases e : dget xs y with
  | none => rw [e] at q; rw [show valV vs (k.enc y) = none from q]; rfl
  | some b => rw [e] at q; obtain ⟨v, hv, _⟩ := q; rw [hv]; rfl
theorem RKs.rep {k : Ke κ} {R : Rp β} {vs : List (Key × V)} {xs : List (κ × β)} (h : RKs k R K G vs xs) (y : κ) {v : V} {b : β} (r : R.r K G v b) :
    RKs k R K G (vs.map fun p => if p.1 = k.enc y then (p.1, v) else p) (xs.map fun p => if p.1 = y then (p.1, b) else p) := by
  induction h with
  | nil => exact .nil
  | @cons p x vs xs q t ih =>
    refine .cons ?_ ih
    by_cases e : x.1 = y
    · dsimp only; rw [if_pos e, if_pos (q.1.trans (by rw [e]))]; exact ⟨q.1, r⟩
    · dsimp only; rw [if_neg e, if_neg (fun z => e (k.inj (q.1.symm.trans z)))]; exact q
theorem RKs.put {k : Ke κ} {R : Rp β} {vs : List (Key × V)} {xs : List (κ × β)} (h : RKs k R K G vs xs) (y : κ) {v : V} {b : β} (r : R.r K G v b) : RKs k R K G (putK vs (k.enc y) v) (dput xs y b) := by
  unfold putK dput
  rw [h.any y]
  split
  · exact RKs.rep h y r
  · exact paired_app h (.cons ⟨rfl, r⟩ .nil)
/-- {} -/
def EvD (K : PySem.W.Frag) (fm : Fm) (te : TE) (σ : L2.St) (G : Hp) (O : Own) : Prop :=
  ∀ G1 H1, Same G G1 → Kn fm G1 O H1 → ∀ Q : VK, (∀ p G2 H2, Stp G1 H1 G2 H2 → H1 p = none → G2 p = none → H2 p = some (.dK []) → Q (.ref p) H2) → te σ H1 Q
theorem d_new : EvD K fm tDNewK σ G O := fun G1 H1 e k Q q p hp => q p G1 _ (Stp.grow k.gh (same_new hp)) hp (same_back k.gh hp) upd_same
theorem w_asgD {i : Nat} {k : Ke κ} {R : Rp β} {mk : List (κ × β) → Res ρ} (he : EvD K fm te σ G O) (hs : Hs fm G O H) (hm : Wp ((Res.ok []).bind mk) Q fm.xw)
    (kk : ∀ xs p vs G' H', Same G G' → Hs fm G' ((p, .dK vs) :: O) H' → RKs k R K G' vs xs → Wp (mk xs) Q fm.xw → tr D (σ.set i (some (.ref p))) H') : tSeq (tAsg te (gName i)) tr D σ H :=
  he G H (Same.refl _) hs.kn _ fun p G2 H2 s hp gp hl => kk [] p [] G2 H2 s.gg (hs.new s hp gp hl) .nil hm
def dputM {κ β ρ : Type} [DecidableEq κ] (xs : List (κ × β)) (n : Res κ) (m : Res β) (mk : List (κ × β) → Res ρ) : Res ρ := m.bind fun y => n.bind fun z => if xs.length < lim then mk (dput xs z y) else .stuck
theorem w_dput {i : Nat} (j : Nat) {l : Addr} {k : Ke κ} {R : Rp β} {vs : List (Key × V)} {xs : List (κ × β)} {m : Res β} {n : Res κ} {mk : List (κ × β) → Res ρ} (hx : σ[i]? = some (some (.ref l))) (hj : O[j]? = some (l, .dK vs)) (hr : RKs k R K G vs xs)
    (he : EvE K fm te σ G O R m) (hi : EvE K fm ta σ G O k.rp n) (hs : Hs fm G O H) (hm : Wp (dputM xs n m mk) Q fm.xw)
    (kk : ∀ ys ws G' H', Same G G' → Hs fm G' (O.set j (l, .dK ws)) H' → RKs k R K G' ws ys → Wp (mk ys) Q fm.xw → tr D σ H') : tSeq (sDPut (tVar i) ta te) tr D σ H :=
  he G H (Same.refl _) hs.kn _ (Res.wp_mono (Res.wp_bind hm.out) (fun y q v G2 H2 s r => ⟨_, hx, hi G2 H2 s.gg (hs.stp s).kn _ (Res.wp_mono (Res.wp_bind q) (fun z q v' G3 H3 s' r' => by
    have ss := s.trans s'
    rw [k.is.mp r']
    by_cases hl : xs.length < lim
    · rw [if_pos hl] at q
      exact ⟨l, _, rfl, DPut.k (ss.hh _ _ (hs.at j hj).1) (by rw [Paired.length hr, ← lim_eq]; exact hl), kk _ _ G3 _ ss.gg ((hs.stp ss).set j hj) ((hr.mono ss.gg).put z (R.mono s'.gg r)) (.mk q)⟩
    · rw [if_neg hl] at q; exact q.elim) fun _ _ z => z)⟩) fun _ _ z => z)
/-- the cell holds the dict, locked or not -/
def CellD (c : HO) (vs : List (Key × V)) : Prop := c = .dK vs ∨ ∃ od, c = .frz od (.dK vs)
theorem CellD.rd {c : HO} {vs : List (Key × V)} (h : CellD c vs) {l : Addr} (e : H l = some c) : Rd H l (.dK vs) := by
  rcases h with h | ⟨od, h⟩
  · subst h; exact .inl e
  · subst h; exact .inr ⟨od, e⟩
theorem e_lenD {i : Nat} {l : Addr} {k : Ke κ} {R : Rp β} {vs : List (Key × V)} {xs : List (κ × β)} (h : σ[i]? = some (some (.ref l))) (hl : (l, HO.dK vs) ∈ O) (r : RKs k R K G vs xs) :
    EvE K fm (tCB (fun xs H Q => ∃ a kvs, xs = [V.ref a] ∧ H a = some (.dK kvs) ∧ Q (.int kvs.length) H) (tCons (tVar i) tNil)) σ G O zI (.ok (xs.length : Int)) := fun G1 H1 e kn Q q =>
  ⟨_, h, l, vs, rfl, kn.own _ hl, q _ G1 H1 (Stp.refl kn.gh) (by show V.int _ = V.int _; rw [Paired.length r])⟩
def dgetM {κ β : Type} [DecidableEq κ] (xs : List (κ × β)) (n : Res κ) : Res β := n.bind fun k => optM (dget xs k)
theorem e_dget {i : Nat} {l : Addr} {c : HO} {k : Ke κ} {R : Rp β} {vs : List (Key × V)} {xs : List (κ × β)} {n : Res κ} (h : σ[i]? = some (some (.ref l))) (hl : (l, c) ∈ O) (hc : CellD c vs) (r : RKs k R K G vs xs) (hi : EvE K fm ta σ G O k.rp n) :
    EvE K fm (tDGet (tVar i) ta) σ G O R (dgetM xs n) := fun G1 H1 e kn Q q =>
  ⟨_, h, hi G1 H1 e kn _ (Res.wp_mono (Res.wp_bind q) (fun y q v G2 H2 s rv => by
    rw [k.is.mp rv]
    have g := r.get y
    cases eg : dget xs y with
    | none => rw [eg] at q; exact q.elim
    | some b =>
      rw [eg] at q g
      obtain ⟨w, hw, rw'⟩ := g
      exact ⟨l, w, rfl, .inl ⟨vs, k.enc y, hc.rd ((kn.stp s).own _ hl), rfl, hw.symm⟩, q w G2 H2 s (R.mono (e.trans s.gg) rw')⟩) fun _ _ z => z)⟩
def dinM {κ β : Type} [DecidableEq κ] (xs : List (κ × β)) (n : Res κ) : Res Bool := n.bind fun k => .ok (dget xs k).isSome
theorem e_din {i : Nat} {l : Addr} {c : HO} {k : Ke κ} {R : Rp β} {vs : List (Key × V)} {xs : List (κ × β)} {n : Res κ} (h : σ[i]? = some (some (.ref l))) (hl : (l, c) ∈ O) (hc : CellD c vs) (r : RKs k R K G vs xs) (hi : EvE K fm ta σ G O k.rp n) :
    EvE K fm (tDIn ta (tVar i)) σ G O rB (dinM xs n) := fun G1 H1 e kn Q q =>
  hi G1 H1 e kn _ (Res.wp_mono (Res.wp_bind q) (fun y q v G2 H2 s rv => ⟨_, h, l, valV vs (k.enc y), rfl, .inl ⟨vs, k.enc y, hc.rd ((kn.stp s).own _ hl), k.is.mp rv, rfl⟩, q _ G2 H2 s (by show V.bl _ = V.bl _; rw [r.isSome])⟩) fun _ _ z => z)
theorem e_dnin {i : Nat} {l : Addr} {c : HO} {k : Ke κ} {R : Rp β} {vs : List (Key × V)} {xs : List (κ × β)} {n : Res κ} (h : σ[i]? = some (some (.ref l))) (hl : (l, c) ∈ O) (hc : CellD c vs) (r : RKs k R K G vs xs) (hi : EvE K fm ta σ G O k.rp n) :
    EvE K fm (tDNotIn ta (tVar i)) σ G O rB (notM (dinM xs n)) := fun G1 H1 e kn Q q =>
  hi G1 H1 e kn _ (Res.wp_mono (Res.wp_bind (Res.wp_bind q)) (fun y q v G2 H2 s rv => ⟨_, h, l, valV vs (k.enc y), rfl, .inl ⟨vs, k.enc y, hc.rd ((kn.stp s).own _ hl), k.is.mp rv, rfl⟩, q _ G2 H2 s (by show V.bl _ = V.bl _; rw [r.isSome])⟩) fun _ _ z => z)
/-! for k in d -/
theorem itk_ok {l : Addr} {od : Obj} {k : Ke κ} {R : Rp β} {vs : List (Key × V)} {xs : List (κ × β)} (r : RKs k R K G vs xs) : ItOk K G [(l, .frz od (.dK vs))] k.rp (Itk l od vs) (xs.map (·.1)) where
  go := fun i G1 H a b ho hi => ⟨ho _ List.mem_cons_self, by rw [Paired.length r]; simpa using hi⟩
  stop := fun G1 H a b ho => ⟨ho _ List.mem_cons_self, by rw [Paired.length r]; simp⟩
  yld := fun i G1 H v H' a b ho hi y => by
    obtain ⟨e, kk, w, hk, ev⟩ := y
    subst e ev
    obtain ⟨x, hx, q, _⟩ := paired_get r hk
    exact ⟨x.1, G1, by rw [List.getElem?_map, hx]; rfl, Stp.refl b, k.is.mpr (by rw [← q])⟩
theorem w_lockM {S : Type} {i : Nat} (j : Nat) {d : Addr} {k : Ke κ} {R : Rp β} {vs : List (Key × V)} {xs : List (κ × β)} {g : TG} {Ss : Rps κ} {is : List Nat} {f : κ → S → Res S} {mk : S → Res ρ} {s0 : S} (W : Obj → S → L2.St → Hp → Own → Prop)
    (hx : σ[i]? = some (some (.ref d))) (hj : O[j]? = some (d, .dK vs)) (hr : RKs k R K G vs xs) (tg : Tgt K g k.rp Ss is) (hs : Hs fm G O H) (hm : Wp (((Res.ok (xs.map (·.1))).bind fun ks => forM f ks s0).bind mk) Q fm.xw)
    (hW : ∀ od s σ G O, W od s σ G O → O[j]? = some (d, .frz od (.dK vs))) (h0 : ∀ od, W od s0 σ G (O.set j (d, .frz od (.dK vs))))
    (hb : ∀ od x s σ' G1 G' O' H' vs (D' : Ends) (Qb : S → Prop), Same G G' → W od s σ' G1 O' → Same G1 G' → Hs fm G' O' H' → Ss.r K G' vs x → MEnds fm G' (W od) Qb D' → Wp (f x s) Qb fm.xw → tw D' (setL σ' is vs) H')
    (hn : ∀ od s σ' G1 G' O' H', Same G G' → W od s σ' G1 O' → Same G1 G' → Hs fm G' (O'.set j (d, .dK vs)) H' → Wp (mk s) Q fm.xw → tr D σ' H') : tSeq (tLock (tFor (iKeys (tVar i)) g tw)) tr D σ H := by
  refine ⟨d, .dK vs, (hs.at j hj).1, trivial, fun od => ?_⟩
  have hs1 := hs.set j (o' := .frz od (.dK vs)) hj
  have hj1 : (O.set j (d, HO.frz od (.dK vs)))[j]? = some (d, .frz od (.dK vs)) := List.getElem?_set_self (List.getElem?_eq_some_iff.mp hj).1
  have hi : EvI K fm (iKeys (tVar i)) σ G (O.set j (d, .frz od (.dK vs))) [(d, .frz od (.dK vs))] k.rp (Res.ok (xs.map (·.1))) := fun G1 H1 e kn Q q =>
    ⟨_, hx, d, od, rfl, .inl ⟨vs, kn.own _ (List.mem_of_getElem? hj1), q _ G1 H1 (Stp.refl kn.gh) (itk_ok (hr.mono e))⟩⟩
  have key := w_forM (K := K) (D := { nx := fun σ' H' => H' d = some (.frz od (.dK vs)) ∧ tr D σ' (upd H' d (.dK vs)), rt := fun v H' => H' d = some (.frz od (.dK vs)) ∧ D.rt v (upd H' d (.dK vs)), bk := fun σ' H' => H' d = some (.frz od (.dK vs)) ∧ D.bk σ' (upd H' d (.dK vs)), ct := fun σ' H' => H' d = some (.frz od (.dK vs)) ∧ D.ct σ' (upd H' d (.dK vs)) })
    (tr := tNext) (tw := tw) (W od) hi (fun s σ G O w p hp => by
      rw [List.mem_singleton.mp hp]
      exact List.mem_of_getElem? (hW od s σ G O w)) tg hs1 hm (h0 od) (hb od) fun s σ' G1 G' O' H' a w c hs' q => by
      have hj' := hW od s σ' G1 O' w
      exact ⟨(hs'.at j hj').1, hn od s σ' G1 G' O' _ a w c (hs'.set j hj') q⟩
  exact key
end
end Mw

namespace Mw
open PySem PySem.Spec PyProof.Rows L2
/-! ### a list that the callee has made -/
def rF {α : Type} (F : Hp) (R : Rp α) : Rp (List α) := ⟨fun K G v xs => ∃ p vs, v = .ref p ∧ F p = none ∧ G p = some (.lst vs) ∧ RLs R K G vs xs, fun e ⟨p, vs, a, b, c, d⟩ => ⟨p, vs, a, b, e _ _ c, d.mono e⟩⟩
/-- a result that may tell what is new since the entry -/
def Anti {β : Type} (Rf : Hp → Rp β) : Prop := ∀ F F' K G v y, Same F F' → (Rf F').r K G v y → (Rf F).r K G v y
def spPF {α β : Type} (K : PySem.W.Frag) (cl : Nat → Addr) (S : Rps α) (Rf : Hp → Rp β) (f : α → Res β) : Sp := fun vs H Q E => ∃ G a, Same G H ∧ S.r K G vs a ∧
  Wp (f a) (fun y => ∀ v G' H', Stp G H G' H' → (Rf H).r K G' v y → Q v H') (fun c fs => ∀ H' d, Same H H' → XdOk fs d H' → E (.ref (cl c)) d H')
theorem an_F {α : Type} {R : Rp α} : Anti fun F => rF F R := fun F F' K G v y e ⟨p, vs, a, b, c, d⟩ => ⟨p, vs, a, same_back e b, c, d⟩
theorem an_R {α : Type} {R : Rp α} : Anti fun _ => R := fun F F' K G v y e h => h
theorem an_P2 {α β : Type} {R : Hp → Rp α} {S : Hp → Rp β} (h1 : Anti R) (h2 : Anti S) : Anti fun F => rP2 (R F) (S F) := fun F F' K G v y e ⟨p, vs, a, b, v1, r, c, d, v2, f, g⟩ => ⟨p, vs, a, b, v1, r, c, h1 F F' K G _ _ e d, v2, f, h2 F F' K G _ _ e g⟩
section
variable {α β γ δ ρ : Type} {K : PySem.W.Frag} {fm : Fm} {σ : L2.St} {G G' H H' : Hp} {O : Own}
variable {te ta tb tc : TE} {R : Rp α} {S : Rp β} {T : Rp γ} {m : Res α} {n : Res β}
variable {D : Ends} {tr tt tu tw : TS} {Q : ρ → Prop}
theorem e_callF {S : Rps α} {f : α → Res β} {Rf : Hp → Rp β} {t : TA} (an : Anti Rf) (h : EvA K fm t σ G O S m) : EvE K fm (tCall (spPF K fm.cl S Rf f) [] fm.E t) σ G O (Rf fm.F) (m.bind f) := fun G1 H1 e k Q q =>
  h G1 H1 e k _ (Res.wp_mono (Res.wp_bind q) (fun x q vs G2 H2 s r => ⟨G2, x, s.gh, by rw [List.append_nil]; exact r,
    .mk (Res.wp_mono q (fun y q v G3 H3 s' rv => q v G3 H3 (s.trans s') (an _ _ _ _ _ _ (k.stp s).fr rv)) fun c fs z H' d a b => z H' d ((k.stp s).fr.trans a) b)⟩) fun _ _ z => z)
theorem rF_rK {F : Hp} {v : V} {xs : List α} (h : (rF F R).r K G v xs) : (rK R).r K G v xs := by
  obtain ⟨p, vs, a, b, c, d⟩ := h
  exact ⟨p, vs, a, c, d⟩
theorem e_FK {F : Hp} {m : Res (List α)} (h : EvE K fm te σ G O (rF F R) m) : EvE K fm te σ G O (rK R) m := fun G1 H1 e k Q q =>
  h G1 H1 e k Q (Res.wp_mono q (fun xs q v G2 H2 s r => q v G2 H2 s (rF_rK r)) fun _ _ z => z)
/-- from the promise that tells more -/
theorem spPF_imp {cl : Nat → Addr} {S : Rps α} {f : α → Res β} {Rf : Hp → Rp β} {R' : Rp β} (h : ∀ F K G v y, (Rf F).r K G v y → R'.r K G v y) (vs : List V) (H : Hp) (Q : VK) (E : XK) (q : spP K cl S R' f vs H Q E) : spPF K cl S Rf f vs H Q E := by
  obtain ⟨G, a, g, s, w⟩ := q
  exact ⟨G, a, g, s, .mk (Res.wp_mono w.out (fun y q v G' H' st r => q v G' H' st (h _ _ _ _ _ r)) fun _ _ z => z)⟩
/-! ### a pair of a word and a list that is one's own from then on -/
theorem w_told {i : Nat} {S : Rps α} {f : α → Res (γ × List β)} {Rl : Rp β} {Rw : Rp γ} {t : TA} {mk : γ × List β → Res ρ} (sw : Sc Rw) (sl : Sc Rl) (h : EvA K fm t σ G O S m) (hs : Hs fm G O H) (hm : Wp ((m.bind f).bind mk) Q fm.xw)
    (k : ∀ y v1 l vs p G' H', Same G G' → Hs fm G' ((l, .lst vs) :: O) H' → SqT K G' p [v1, .ref l] → Rw.r K G' v1 y.1 → RLs Rl K G' vs y.2 → Wp (mk y) Q fm.xw → tr D (σ.set i (some (.ref p))) H') :
    tSeq (tAsg (tCall (spPF K fm.cl S (fun F => rP2 Rw (rF F Rl)) f) [] fm.E t) (gName i)) tr D σ H :=
  h G H (Same.refl _) hs.kn _ (Res.wp_mono (Res.wp_bind (Res.wp_bind hm.out)) (fun x q vs G2 H2 s r => ⟨G2, x, s.gh, by rw [List.append_nil]; exact r,
    Wp.mk (Res.wp_mono q (fun y q v G3 H3 s' rv => by
      obtain ⟨p, ws, rfl, hT, v1, r1, e1, hw, v2, e2, l, us, rfl, hl, hG, rl⟩ := rv
      subst e1 e2
      have ss := s.trans s'
      have g2l : G2 l = none := same_back s.gh hl
      have hne : ∀ b o, G2 b = some o → b ≠ l := fun b o z => ne_of_none z g2l
      have hT' : SqT K (fun b => if b = l then none else G3 b) p [v1, .ref l] := by
        rcases hT with hT | hT
        · refine .inl ?_
          have np : p ≠ l := by
            rintro rfl
            rcases hT with hT | ⟨o, hT⟩ <;> rw [hG] at hT <;> cases hT
          rcases hT with hT | ⟨o, hT⟩
          · exact .inl (by show (if p = l then none else G3 p) = _; rw [if_neg np]; exact hT)
          · exact .inr ⟨o, by show (if p = l then none else G3 p) = _; rw [if_neg np]; exact hT⟩
        · exact .inr hT
      have st : Stp G H (fun b => if b = l then none else G3 b) H3 := ⟨ss.hh, fun b o z => by
          show (if b = l then none else G3 b) = _
          rw [if_neg (hne b o (s.gg b o z))]; exact ss.gg b o z, fun b o z => by
          by_cases e : b = l
          · subst e; rw [if_pos rfl] at z; cases z
          · rw [if_neg e] at z; exact ss.gh b o z, fun b o z => by
          show (if b = l then none else G3 b) = _
          have : b ≠ l := by rintro rfl; have := s.hh _ _ z; rw [hl] at this; cases this
          rw [if_neg this]; exact ss.old b o z⟩
      exact k y v1 l us p _ H3 st.gg (hs.new st (same_back s.hh hl) (if_pos rfl) (s'.gh _ _ hG)) hT' (sw _ _ _ _ _ hw) (Paired.mapP rl fun _ _ q => sl _ _ _ _ _ q) (.mk q)) fun c fs z H' d a b => z H' d ((hs.kn.stp s).fr.trans a) b)⟩) fun _ _ z => z)
theorem told_rep {Rl : Rp β} {Rw : Rp γ} {y : γ × List β} {v1 : V} {l p : Addr} {vs : List V} (hT : SqT K G p [v1, .ref l]) (hw : Rw.r K G v1 y.1) (hG : G l = some (.lst vs)) (r : RLs Rl K G vs y.2) : (rP2 Rw (rK Rl)).r K G (.ref p) y :=
  ⟨p, _, rfl, hT, v1, _, rfl, hw, _, rfl, l, vs, rfl, hG, r⟩
/-- told[1].append(e) -/
theorem w_appAt {i : Nat} (j : Nat) {l p : Addr} {v1 : V} {vs : List V} {xs : List α} {m : Res α} {mk : List α → Res ρ} (hx : σ[i]? = some (some (.ref p))) (hT : SqT K G p [v1, .ref l]) (hj : O[j]? = some (l, .lst vs)) (hr : RLs R K G vs xs) (he : EvE K fm te σ G O R m) (hs : Hs fm G O H)
    (hm : Wp (appM xs m mk) Q fm.xw)
    (k : ∀ y v G' H', Same G G' → Hs fm G' (O.set j (l, .lst (vs ++ [v]))) H' → RLs R K G' (vs ++ [v]) (xs ++ [y]) → Wp (mk (xs ++ [y])) Q fm.xw → tr D σ H') :
    tSeq (tDrop (tBM K "list" rAppend (tOp (rIxT K) (tVar i) (tC (.int 1))) (tCons te tNil))) tr D σ H :=
  ⟨_, hx, p, _, 1, .ref l, rfl, rfl, same_t hs.gh hT, rfl, .inl ⟨rfl, vs, SqL.of (hs.at j hj).1⟩, he G H (Same.refl _) hs.kn _ (Res.wp_mono (Res.wp_bind (f := fun y => if xs.length < lim then mk (xs ++ [y]) else .stuck) hm.out) (fun y q v G2 H2 s r => by
    by_cases hl : xs.length < lim
    · rw [if_pos hl] at q
      exact ⟨l, vs, v, rfl, rfl, s.hh _ _ (hs.at j hj).1, by rw [Paired.length hr, ← lim_eq]; exact hl, k y v G2 _ s.gg ((hs.stp s).set j hj) (paired_app (hr.mono s.gg) (.cons r .nil)) (.mk q)⟩
    · rw [if_neg hl] at q; exact q.elim) fun _ _ z => z)⟩

/-! ### try: .. except GatesError as e: return [isinstance(e, A), .., True].index(True) -/
def tryM {α ρ : Type} (m : Res α) (h : Nat → List (Str × V) → Res ρ) (k : α → Res ρ) : Res ρ :=
  match m with
  | .ok a => k a
  | .exc c fs => h c fs
  | .stuck => .stuck
@[simp] theorem tryM_ok {α ρ : Type} (a : α) (h : Nat → List (Str × V) → Res ρ) (k : α → Res ρ) : tryM (.ok a) h k = k a := rfl
@[simp] theorem tryM_exc {α ρ : Type} (c fs) (h : Nat → List (Str × V) → Res ρ) (k : α → Res ρ) : tryM (.exc c fs) h k = h c fs := rfl
/-- the items isinstance(e, C), .. and True -/
def tIs (K : PySem.W.Frag) (i : Nat) (a C : Addr) : List Addr → TA
  | [] => tCons (tC (.bl true)) tNil
  | c :: cs => tCons (tCB (rIsE K C a) (tCons (tVar i) (tCons (tC (.ref c)) tNil))) (tIs K i a C cs)
def firstT : List Bool → Nat
  | [] => 0
  | b :: bs => if b = true then 0 else firstT bs + 1
theorem tIs_run {i : Nat} {a C : Addr} : ∀ {cs : List Addr} {bs : List Bool} {σ : L2.St} {H : Hp} {Q : List V → Hp → Prop}, σ[i]? = some (some (.ref a)) → Paired (fun c b => PySem.W.kitOne K (.ref C) (.ref c) = some b) cs bs → Q ((bs.map V.bl) ++ [.bl true]) H → tIs K i a C cs σ H Q
  | _, _, σ, H, Q, hx, .nil, q => q
  | _, _, σ, H, Q, hx, .cons (b := b) h t, q => ⟨_, hx, .ref _, .ref _, b, rfl, fun u e => e, h, tIs_run (Q := fun xs H2 => Q (.bl b :: xs) H2) hx t q⟩
def tIdx (K : PySem.W.Frag) (i : Nat) (a C : Addr) (cs : List Addr) : TS := tSeq (tRet (tBM K "list" (rIndex K) (tLst (tIs K i a C cs)) (tCons (tC (.bl true)) tNil))) tNext
theorem firstT_at : ∀ bs : List Bool, (bs.map V.bl ++ [V.bl true])[firstT bs]? = some (.bl true)
  | [] => rfl
  | b :: bs => by
    unfold firstT
    split
    · rename_i h; subst h; rfl
    · simpa using firstT_at bs
theorem firstT_lt : ∀ (bs : List Bool) (m : Nat) (z : V), m < firstT bs → (bs.map V.bl ++ [V.bl true])[m]? = some z → eqV z (.bl true) = false
  | [], m, z, h, e => absurd h (by simp [firstT])
  | b :: bs, m, z, h, e => by
    unfold firstT at h
    split at h
    · exact absurd h (Nat.not_lt_zero _)
    · rename_i hb
      cases m with
      | zero =>
        have : z = .bl b := by simpa using e.symm
        subst this
        cases b
        · rfl
        · exact absurd rfl hb
      | succ m => exact firstT_lt bs m z (by omega) (by simpa using e)
theorem firstT_len : ∀ bs : List Bool, firstT bs ≤ bs.length
  | [] => Nat.le_refl _
  | b :: bs => by
    unfold firstT
    split
    · exact Nat.zero_le _
    · exact Nat.succ_le_succ (firstT_len bs)
theorem tIdx_run {i : Nat} {a C : Addr} {cs : List Addr} {bs : List Bool} {σ : L2.St} {H : Hp} (hx : σ[i]? = some (some (.ref a))) (h : Paired (fun c b => PySem.W.kitOne K (.ref C) (.ref c) = some b) cs bs) (hn : bs.length < 1000)
    (q : ∀ H', Same H H' → D.rt (.int (firstT bs : Nat)) H') : tIdx K i a C cs D σ H := by
  refine tIs_run (K := K) hx h ⟨?_, fun p hp => ⟨.inl ⟨rfl, _, SqL.of upd_same⟩, p, _, .bl true, firstT bs, .bl true, rfl, rfl, SqL.of upd_same, rfl, ?_, firstT_at bs, rfl, firstT_lt bs, q _ (same_new hp)⟩⟩
  · rw [sizeLine_eq]; simp; omega
  · rw [List.all_eq_true]
    intro x hx
    rcases List.mem_append.mp hx with hx | hx
    · obtain ⟨b, _, e⟩ := List.mem_map.mp hx
      rw [← e]; rfl
    · rw [List.mem_singleton.mp hx]; rfl
/-- the suite's reading, by the class of what is caught -/
noncomputable def tSui (K : PySem.W.Frag) (i : Nat) (cl : Nat → Addr) (n : Nat) (cs : List Addr) (a : Addr) (cls : Value) (d : Option Addr) : TS := by
  classical exact if h : d = none ∧ ∃ k, k < n ∧ cls = .ref (cl k) then tIdx K i a (cl h.2.choose) cs else tNever
theorem tSui_eq {i : Nat} {cl : Nat → Addr} {n : Nat} {cs : List Addr} {a : Addr} {k : Nat} (hk : k < n) : tSui K i cl n cs a (.ref (cl k)) none = tIdx K i a (cl k) cs := by
  unfold tSui
  have h : (none : Option Addr) = none ∧ ∃ j, j < n ∧ Value.ref (cl k) = .ref (cl j) := ⟨rfl, k, hk, rfl⟩
  rw [dif_pos h]
  have e := h.2.choose_spec.2
  injection e with e
  rw [← e]
theorem tSui_ok {X : Cx} {i : Nat} {cl : Nat → Addr} {n : Nat} {cs : List Addr} {sts : List Stmt} (hd : ∀ (a : Addr) (oe : Obj) (k : Nat) (pn : List (Addr × Obj)), k < n → Zc (.ref (cl k)) none oe → (∃ vs, oe.data = .fields vs) → PSs (X.suite a ((a, oe) :: pn)) sts (tIdx X.K i a (cl k) cs))
    (a : Addr) (oe : Obj) (cls : Value) (d : Option Addr) (pn : List (Addr × Obj)) (hz : Zc cls d oe) (hf : ∃ vs, oe.data = .fields vs) : PSs (X.suite a ((a, oe) :: pn)) sts (tSui X.K i cl n cs a cls d) := by
  classical
  unfold tSui
  split
  · rename_i h
    obtain ⟨hk, e⟩ := h.2.choose_spec
    obtain ⟨rfl, _⟩ := h
    exact hd a oe _ pn hk (by rw [← e]; exact hz) hf
  · exact pss_never
theorem Hs.withE {E' : XK} (h : Hs fm G O H) : Hs { fm with E := E' } G O H := ⟨h.fr, h.g0, h.gh, h.old, h.own, h.nd⟩
theorem e_callS {S : Rps α} {f : α → Res β} {R : Rp β} {t : TA} {Ew : L2.St → XK} (hE : Ew σ = fm.E) (h : EvA K fm t σ G O S m) : EvE K fm (tCallS (spP K fm.cl S R f) Ew t) σ G O R (m.bind f) := fun G1 H1 e k Q q =>
  h G1 H1 e k _ (Res.wp_mono (Res.wp_bind q) (fun x q vs G2 H2 s r => ⟨G2, x, s.gh, r,
    .mk (Res.wp_mono q (fun y q v G3 H3 s' rv => q v G3 H3 (s.trans s') rv) fun c fs z H' d a b => by
      rw [hE]
      exact z H' d ((k.stp s).fr.trans a) b)⟩) fun _ _ z => z)
theorem e_callSF {S : Rps α} {f : α → Res β} {Rf : Hp → Rp β} {t : TA} {Ew : L2.St → XK} (an : Anti Rf) (hE : Ew σ = fm.E) (h : EvA K fm t σ G O S m) : EvE K fm (tCallS (spPF K fm.cl S Rf f) Ew t) σ G O (Rf fm.F) (m.bind f) := fun G1 H1 e k Q q =>
  h G1 H1 e k _ (Res.wp_mono (Res.wp_bind q) (fun x q vs G2 H2 s r => ⟨G2, x, s.gh, r,
    .mk (Res.wp_mono q (fun y q v G3 H3 s' rv => q v G3 H3 (s.trans s') (an _ _ _ _ _ _ (k.stp s).fr rv)) fun c fs z H' d a b => by
      rw [hE]
      exact z H' d ((k.stp s).fr.trans a) b)⟩) fun _ _ z => z)
theorem Hs.sr (h : Hs fm G O H) : Same G G := Same.refl G
/-- by the class: the place in the handler's list -/
def errM {ρ : Type} (n : Nat) (f : Nat → Res ρ) (c : Nat) (fs : List (Str × V)) : Res ρ := if c < n ∧ fs = [] then f c else .stuck
def tTry (tb : WX → TS) (K : PySem.W.Frag) (c : Value) (i : Nat) (ts : Addr → Value → Option Addr → TS) (Wout : WX) : TS := fun D σ H => tb (wAs K c i ts Wout D) D σ H
theorem w_try {tb : WX → TS} {Wout : WX} {c : Value} {i nn : Nat} {cs : List Addr} {bs : Nat → List Bool} {mb : Res Unit} {hd : Nat → Res ρ} {rest : Res ρ}
    (hs : Hs fm G O H) (hm : Wp (tryM mb (errM nn hd) (fun _ => rest)) Q fm.xw) (hi : i < σ.length)
    (hex : ∀ k, k < nn → PySem.W.exmOne K (.ref (fm.cl k)) c = some true)
    (hkit : ∀ k, k < nn → Paired (fun c b => PySem.W.kitOne K (.ref (fm.cl k)) (.ref c) = some b) cs (bs k)) (hlen : ∀ k, k < nn → (bs k).length < 1000)
    (hret : ∀ k H', k < nn → Same fm.F H' → Wp (hd k) Q fm.xw → D.rt (.int (firstT (bs k) : Nat)) H')
    (hb : ∀ (D' : Ends) (Qb : Unit → Prop) (W : WX), (∀ G' H', Same G G' → Hs fm G' O H' → Qb () → D'.nx σ H') → Hs { fm with E := WE W σ } G O H → Wp mb Qb ({ fm with E := WE W σ } : Fm).xw → tb W D' σ H)
    (hn : ∀ G' H', Same G G' → Hs fm G' O H' → Wp rest Q fm.xw → tr D σ H') : tSeq (tTry tb K c i (tSui K i fm.cl nn cs) Wout) tr D σ H := by
  refine hb _ (fun _ => Wp rest Q fm.xw) _ (fun G' H' a b q => hn G' H' a b q) hs.withE (.mk ?_)
  have q := hm.out
  cases mb with
  | ok u => exact .mk q
  | stuck => exact q
  | exc k fs =>
    have q' : (errM nn hd k fs).wp Q fm.xw := q
    unfold errM at q'
    split at q'
    · rename_i hk
      obtain ⟨hk, rfl⟩ := hk
      intro H' d e hd'
      cases (show d = none from hd')
      refine ⟨true, hex k hk, fun _ a ha => ?_, fun z => nomatch z⟩
      rw [tSui_eq hk]
      exact tIdx_run (List.getElem?_set_self hi) (hkit k hk) (hlen k hk) fun H2 e2 => hret k H2 hk (e.trans e2) (.mk q')
    · exact q'.elim
theorem e_FP2 {F : Hp} {m : Res (β × List α)} (h : EvE K fm te σ G O (rP2 S (rF F R)) m) : EvE K fm te σ G O (rP2 S (rK R)) m := fun G1 H1 e k Q q =>
  h G1 H1 e k Q (Res.wp_mono q (fun xs q v G2 H2 s r => q v G2 H2 s (by
    obtain ⟨p, vs, a, b, v1, r1, c, d, v2, f, g⟩ := r
    exact ⟨p, vs, a, b, v1, r1, c, d, v2, f, rF_rK g⟩)) fun _ _ z => z)
theorem nn_F {F : Hp} : Nn (rF F R) := fun _ _ v x ⟨p, vs, h, _⟩ => by cases h; simp
end
end Mw

/-! plain lemmas on the mirrors' combinators -/
namespace Mw
open PySem L2
section
variable {α β γ S ρ : Type}
/-- an item; out of range: anything -/
def gx [Inhabited α] (xs : List α) (i : Int) : α := (xs[i.toNat]?).getD default
theorem gx_nat [Inhabited α] {xs : List α} {i : Nat} (h : i < xs.length) : gx xs (i : Int) = xs[i] := by
  simp [gx, h]
theorem gx_mem [Inhabited α] {xs : List α} {i : Int} (h0 : 0 ≤ i) (h1 : i < xs.length) : gx xs i ∈ xs := by
  obtain ⟨n, rfl⟩ := Int.eq_ofNat_of_zero_le h0
  have h : n < xs.length := by omega
  rw [gx_nat h]; exact List.getElem_mem h
theorem atI_gx [Inhabited α] {xs : List α} {i : Int} (h0 : 0 ≤ i) (h1 : i < xs.length) : atI xs i = some (gx xs i) := by
  obtain ⟨n, rfl⟩ := Int.eq_ofNat_of_zero_le h0
  have h : n < xs.length := by omega
  rw [gx_nat h]
  unfold atI ixN
  rw [if_pos h0, if_pos h1]
  simp [h]
theorem idxM_gx [Inhabited α] {xs : List α} {i : Int} (h0 : 0 ≤ i) (h1 : i < xs.length) : idxM (.ok xs) (.ok i) = .ok (gx xs i) := by
  rw [idxM_ok, atI_gx h0 h1]; rfl
theorem gx_ext [Inhabited α] {xs ys : List α} (hl : xs.length = ys.length) (h : ∀ i : Nat, i < xs.length → gx xs i = gx ys i) : xs = ys := by
  apply List.ext_getElem hl
  intro i h1 h2
  have := h i h1
  rwa [gx_nat h1, gx_nat h2] at this
theorem gx_set [Inhabited α] {xs : List α} {i : Nat} {j : Int} {y : α} (hj : 0 ≤ j) (hi : i < xs.length) : gx (xs.set i y) j = if (i : Int) = j then y else gx xs j := by
  obtain ⟨n, rfl⟩ := Int.eq_ofNat_of_zero_le hj
  unfold gx
  simp only [Int.toNat_natCast]
  rw [List.getElem?_set]
  by_cases e : i = n
  · subst e; simp [hi]
  · rw [if_neg e, if_neg (by omega)]
theorem gx_map [Inhabited α] [Inhabited β] {xs : List α} {f : α → β} {i : Int} (h0 : 0 ≤ i) (h1 : i < xs.length) : gx (xs.map f) i = f (gx xs i) := by
  obtain ⟨n, rfl⟩ := Int.eq_ofNat_of_zero_le h0
  have h : n < xs.length := by omega
  rw [gx_nat (by simpa using h), gx_nat h, List.getElem_map]
theorem gx_rgL {lo : Int} {n : Nat} {i : Int} (h0 : 0 ≤ i) (h1 : i < n) : gx (rgL lo n) i = lo + i := by
  obtain ⟨k, rfl⟩ := Int.eq_ofNat_of_zero_le h0
  rw [gx_nat (by rw [rgL_length]; omega)]
  simp [rgL]
theorem lim_big : 1000000 < lim := by rw [lim_eq]; decide +kernel
theorem mem_rgL {lo x : Int} {n : Nat} : x ∈ rgL lo n ↔ lo ≤ x ∧ x < lo + n := by
  unfold rgL
  rw [List.mem_map]
  constructor
  · rintro ⟨i, hi, rfl⟩
    have := List.mem_range.mp hi
    omega
  · rintro ⟨h1, h2⟩
    exact ⟨(x - lo).toNat, List.mem_range.mpr (by omega), by omega⟩
theorem rng1_ok {n : Nat} (h : n < 1000000) : rng1M (.ok (n : Int)) = .ok (rgL 0 n) := by
  have : inR (n : Int) = true := by
    unfold inR
    rw [Bool.and_eq_true, decide_eq_true_eq, decide_eq_true_eq]
    have a : (-(2 ^ 62) : Int) ≤ 0 := by decide
    have b : (1000000 : Int) < 2 ^ 62 := by decide
    exact ⟨Int.le_trans a (by omega), Int.lt_trans (by omega) b⟩
  unfold rng1M
  rw [Res.bind_ok, if_pos this, Int.toNat_natCast]
theorem lcM_ok {c : α → Res Bool} {f : α → Res β} {p : α → Bool} {g : α → β} : ∀ {xs : List α}, (∀ x ∈ xs, c x = .ok (p x)) → (∀ x ∈ xs, p x = true → f x = .ok (g x)) → lcM c f xs = .ok ((xs.filter p).map g)
  | [], _, _ => rfl
  | x :: xs, h, hf => by
    have ih := lcM_ok (xs := xs) (fun y hy => h y (List.mem_cons_of_mem _ hy)) (fun y hy => hf y (List.mem_cons_of_mem _ hy))
    unfold lcM
    rw [h x (List.mem_cons_self ..), Res.nox_ok, Res.bind_ok]
    cases e : p x
    · rw [if_neg (by simp), ih, List.filter_cons_of_neg (by simp [e])]
    · rw [if_pos rfl, hf x (List.mem_cons_self ..) e, Res.nox_ok, Res.bind_ok, ih, List.filter_cons_of_pos e]; rfl
theorem lcB_ok {c : α → Res Bool} {f : α → Res β} (p : α → Bool) (g : α → β) {xs : List α} (hl : xs.length < 1000000) (h : ∀ x ∈ xs, c x = .ok (p x)) (hf : ∀ x ∈ xs, p x = true → f x = .ok (g x)) : lcB c f (.ok xs) = .ok ((xs.filter p).map g) := by
  show (if xs.length < lim then lcM c f xs else .stuck) = _
  rw [if_pos (Nat.lt_trans hl (lim_big)), lcM_ok h hf]
theorem lcB_map {f : α → Res β} (g : α → β) {xs : List α} (hl : xs.length < 1000000) (hf : ∀ x ∈ xs, f x = .ok (g x)) : lcB (fun _ => .ok true) f (.ok xs) = .ok (xs.map g) := by
  rw [lcB_ok (fun _ => true) g hl (fun _ _ => rfl) (fun x h _ => hf x h), List.filter_eq_self.mpr (fun _ _ => rfl)]
theorem lcB_filter {c : α → Res Bool} (p : α → Bool) {xs : List α} (hl : xs.length < 1000000) (h : ∀ x ∈ xs, c x = .ok (p x)) : lcB c (fun x => .ok x) (.ok xs) = .ok (xs.filter p) := by
  have := lcB_ok (f := fun x => .ok x) p (fun x => x) hl h (fun _ _ _ => rfl)
  rw [this, List.map_id']
theorem forM_ok {f : α → S → Res S} (P : List α → S → Prop) : ∀ {xs : List α} {s : S}, P xs s → (∀ x ys s, x ∈ xs → P (x :: ys) s → ∃ s', f x s = .ok s' ∧ P ys s') → ∃ s', forM f xs s = .ok s' ∧ P [] s'
  | [], s, h, _ => ⟨s, rfl, h⟩
  | x :: xs, s, h, k => by
    obtain ⟨s', e, h'⟩ := k x xs s (List.mem_cons_self ..) h
    unfold forM
    rw [e, Res.bind_ok]
    exact forM_ok P h' fun y ys s hy => k y ys s (List.mem_cons_of_mem _ hy)
theorem forM_fold {f : α → S → Res S} (g : S → α → S) (P : S → Prop) : ∀ {xs : List α} {s : S}, P s → (∀ x s, x ∈ xs → P s → f x s = .ok (g s x) ∧ P (g s x)) → forM f xs s = .ok (xs.foldl g s) ∧ P (xs.foldl g s)
  | [], s, h, _ => ⟨rfl, h⟩
  | x :: xs, s, h, k => by
    obtain ⟨e, h'⟩ := k x s (List.mem_cons_self ..) h
    unfold forM
    rw [e, Res.bind_ok]
    exact forM_fold g P h' fun y s hy => k y s (List.mem_cons_of_mem _ hy)
theorem rgL_cons (lo : Int) (n : Nat) : rgL lo (n + 1) = lo :: rgL (lo + 1) n := by
  unfold rgL
  rw [List.range_succ_eq_map, List.map_cons, List.map_map]
  congr 1
  · simp
  · apply List.map_congr_left
    intro i _
    simp only [Function.comp, Nat.succ_eq_add_one]
    omega
theorem rgL_succ (lo : Int) (n : Nat) : rgL lo (n + 1) = rgL lo n ++ [lo + (n : Int)] := by
  unfold rgL
  rw [List.range_succ, List.map_append]; rfl
/-- a loop over a range -/
theorem forM_rng {f : Int → S → Res S} (P : Nat → S → Prop) {n : Nat} {s : S} (h0 : P 0 s) (lo : Int) (h : ∀ k s, k < n → P k s → ∃ s', f (lo + (k : Int)) s = .ok s' ∧ P (k + 1) s') : ∃ s', forM f (rgL lo n) s = .ok s' ∧ P n s' := by
  have gen : ∀ (r k : Nat) (s : S), k + r = n → P k s → ∃ s', forM f (rgL (lo + (k : Int)) r) s = .ok s' ∧ P n s' := by
    intro r
    induction r with
    | zero => intro k s e hp; exact ⟨s, rfl, by rw [← e]; exact hp⟩
    | succ r ih =>
      intro k s e hp
      obtain ⟨s', e1, h1⟩ := h k s (by omega) hp
      obtain ⟨s2, e2, h2⟩ := ih (k + 1) s' (by omega) h1
      refine ⟨s2, ?_, h2⟩
      rw [rgL_cons]
      show (f (lo + (k : Int)) s).bind _ = _
      rw [e1, Res.bind_ok]
      rw [show lo + (k : Int) + 1 = lo + ((k + 1 : Nat) : Int) by omega]
      exact e2
  obtain ⟨s', e, h⟩ := gen n 0 s (by omega) h0
  exact ⟨s', by simpa using e, h⟩
/-- a loop that appends -/
theorem forM_app {f : α → List β → Res (List β)} (g : α → β) {xs : List α} (hl : xs.length < 1000000) (h : ∀ x acc, x ∈ xs → f x acc = appM acc (.ok (g x)) .ok) : forM f xs [] = .ok (xs.map g) := by
  have gen : ∀ (ys : List α) (acc : List β), (∀ x ∈ ys, x ∈ xs) → acc.length + ys.length ≤ xs.length → forM f ys acc = .ok (acc ++ ys.map g) := by
    intro ys
    induction ys with
    | nil => intro acc _ _; simp [forM]
    | cons y ys ih =>
      intro acc hm hl2
      unfold forM
      simp only [List.length_cons] at hl2
      rw [h y acc (hm y (List.mem_cons_self ..)), appM_ok _ _ _ (Nat.lt_trans (by omega : acc.length < 1000000) lim_big), Res.bind_ok, ih _ (fun x hx => hm x (List.mem_cons_of_mem _ hx)) (by simp; omega)]
      simp
  have := gen xs [] (fun _ h => h) (by simp)
  simpa using this
/-- a loop that only looks whether to leave with False -/
theorem forB_all {f : α → Unit → Res (Tn Unit Bool)} (p : α → Bool) : ∀ {xs : List α}, (∀ x ∈ xs, f x () = .ok (if p x = true then .nx () else .rt false)) → forB f xs () = .ok (if xs.all p = true then .nx () else .rt false)
  | [], _ => rfl
  | x :: xs, h => by
    have ih := forB_all p (xs := xs) fun y hy => h y (List.mem_cons_of_mem _ hy)
    unfold forB
    rw [h x (List.mem_cons_self ..), Res.bind_ok]
    cases e : p x
    · rw [if_neg (by simp)]
      rw [if_neg (by rw [List.all_cons, e]; simp)]
    · rw [if_pos rfl]
      show forB f xs () = _
      rw [ih, List.all_cons, e, Bool.true_and]
theorem shl1_ok {d : Nat} (h : d ≤ 1000) : shlM (.ok 1) (.ok (d : Int)) = .ok (((2 ^ d : Nat) : Nat) : Int) := by
  have : cpow 1 (d : Int) = true := by
    unfold cpow
    simp only [Bool.and_eq_true, decide_eq_true_eq]
    exact ⟨⟨by omega, by omega⟩, by decide⟩
  show (if cpow 1 (d : Int) = true then Res.ok ((1 : Int) * 2 ^ (d : Int).toNat) else .stuck) = _
  rw [if_pos this, Int.toNat_natCast, Int.one_mul]
  simp
theorem shl_ok {x : Int} {d : Nat} (h : d ≤ 1000) (hx : x.natAbs < 2 ^ 64) : shlM (.ok x) (.ok (d : Int)) = .ok (x * ((2 ^ d : Nat) : Int)) := by
  have : cpow x (d : Int) = true := by
    unfold cpow
    simp only [Bool.and_eq_true, decide_eq_true_eq]
    exact ⟨⟨by omega, by omega⟩, hx⟩
  show (if cpow x (d : Int) = true then Res.ok (x * 2 ^ (d : Int).toNat) else .stuck) = _
  rw [if_pos this, Int.toNat_natCast]
  simp
theorem mul_ok {x y : Int} (h : x.natAbs < 2 ^ 60 ∨ y.natAbs < 2 ^ 60) : mulM (.ok x) (.ok y) = .ok (x * y) := by
  show (if inB x || inB y then Res.ok (x * y) else .stuck) = _
  have : (inB x || inB y) = true := by
    simp only [inB, Bool.or_eq_true, Bool.and_eq_true, decide_eq_true_eq]
    rcases h with h | h
    · exact .inl ⟨by omega, by omega⟩
    · exact .inr ⟨by omega, by omega⟩
  rw [if_pos this]
theorem mod_ok {x y : Int} (h : 0 < y) : modM (.ok x) (.ok y) = .ok (x % y) := by
  show (if decide (0 < y) = true then Res.ok (x % y) else .stuck) = _
  rw [if_pos (by simpa using h)]
theorem fdiv_ok {x y : Int} (h : 0 < y) (h2 : y < 1073741824) : fdivM (.ok x) (.ok y) = .ok (x / y) := by
  show (if (decide (0 < y) && decide (y < 1073741824)) = true then Res.ok (x / y) else .stuck) = _
  rw [if_pos (by simp [h, h2])]
@[simp] theorem addM_ok (x y : Int) : addM (.ok x) (.ok y) = .ok (x + y) := rfl
@[simp] theorem subM_ok (x y : Int) : subM (.ok x) (.ok y) = .ok (x - y) := rfl
@[simp] theorem negM_ok (x : Int) : negM (.ok x) = .ok (-x) := rfl
theorem setM_ok {xs : List α} {i : Int} {y : α} {mk : List α → Res ρ} (h0 : 0 ≤ i) (h1 : i < xs.length) : setM xs (.ok i) (.ok y) mk = mk (xs.set i.toNat y) := by
  show (setF xs i y).bind mk = _
  unfold setF ixN
  rw [if_pos h0, if_pos h1]; rfl
theorem bif_eq {c : Bool} {a b : Res α} : Res.ite (.ok c) a b = if c = true then a else b := rfl
end
end Mw

namespace G94
open PySem Mw
def m_state_count (p_table : (Int × Int × (List (List (Int × Int))))) : Res Int :=
  (lenM (Res.bind (.ok p_table) fun a => .ok a.2.2))
def m_check_driver (p_table : (Int × Int × (List (List (Int × Int))))) (p_driver_count : Int) : Res Unit :=
  (Res.ite (notM (chainM (fun i j => decide (i ≤ j)) (fun i j => decide (i ≤ j)) (.ok (0 : Int)) (.ok p_driver_count) (Res.bind (.ok p_table) fun a => .ok a.1)))
  (.exc 0 [])
  (.ok ()))
def m_outcomes (p_table : (Int × Int × (List (List (Int × Int))))) (p_driver_count : Int) (p_state : Int) (p_move : Int) : Res (List (Int × Int)) :=
  (Res.bind (idxM (Res.bind (.ok p_table) fun a => .ok a.2.2) (.ok p_state)) fun (p_row : (List (Int × Int))) =>
  (lcB (fun (x2 : Int) => .ok true) (fun (x2 : Int) => (idxM (.ok p_row) (addM (.ok p_move) (shlM (.ok x2) (.ok p_driver_count))))) (rng1M (shlM (.ok (1 : Int)) (subM (Res.bind (.ok p_table) fun a => .ok a.1) (.ok p_driver_count))))))
def m_holds (p_pairs : (List (Int × Int))) (p_bad : (List Int)) (p_rounds : (List (Option Int))) : Res Bool :=
  (allM (lcB (fun (x1 : (Int × Int)) => .ok true) (fun (x1 : (Int × Int)) => (andM (ninM (.ok x1.2) (.ok p_bad)) (isNM (idxM (.ok p_rounds) (.ok x1.1))))) (.ok p_pairs)))
def m_good_moves (p_table : (Int × Int × (List (List (Int × Int))))) (p_driver_count : Int) (p_bad : (List Int)) (p_rounds : (List (Option Int))) (p_state : Int) : Res (List Int) :=
  (Res.bind (Res.bind (shlM (.ok (1 : Int)) (.ok p_driver_count)) fun j => .ok ((0 : Int), j)) fun (p_moves : (Int × Int)) =>
  (lcB (fun (x2 : Int) => (Res.bind (pairM (Res.bind (pairM (.ok p_table) (pairM (.ok p_driver_count) (pairM (.ok p_state) (.ok x2)))) fun a => m_outcomes (a.1) (a.2.1) (a.2.2.1) (a.2.2.2)) (pairM (.ok p_bad) (.ok p_rounds))) fun a => m_holds (a.1) (a.2.1) (a.2.2))) (fun (x2 : Int) => (.ok x2)) (rngOM (.ok p_moves))))
def m_lost_rounds_b15 (p_number : Int) (p_state : Int) (p_rounds : (List (Option Int))) : Res ((List (Option Int))) :=
  (setM p_rounds (.ok p_state) (someM (.ok p_number)) fun p_rounds =>
  (.ok p_rounds))
def m_lost_rounds_b17 (p_table : (Int × Int × (List (List (Int × Int))))) (p_driver_count : Int) (p_bad : (List Int)) (s_ : Int × (List (Option Int)) × Bool) : Res (Tn (Int × (List (Option Int)) × Bool) (List (Option Int))) :=
  match s_ with
 | (p_number, p_rounds, p_changed) =>
  (augM (fun i j => i + j) p_number (.ok (1 : Int)) fun p_number =>
  (Res.bind (lcB (fun (x7 : Int) => (isNM (idxM (.ok p_rounds) (.ok x7)))) (fun (x7 : Int) => (.ok x7)) (rng1M (Res.bind (.ok p_table) fun a => m_state_count a))) fun (p_left : (List Int)) =>
  (Res.bind (lcB (fun (x10 : Int) => (notM (truL (Res.bind (pairM (.ok p_table) (pairM (.ok p_driver_count) (pairM (.ok p_bad) (pairM (.ok p_rounds) (.ok x10))))) fun a => m_good_moves (a.1) (a.2.1) (a.2.2.1) (a.2.2.2.1) (a.2.2.2.2))))) (fun (x10 : Int) => (.ok x10)) (.ok p_left)) fun (p_fallen : (List Int)) =>
  (Res.bind (Res.bind (.ok p_fallen) fun xs => forM (m_lost_rounds_b15 p_number) xs p_rounds) (fun (p_rounds : (List (Option Int))) => (Res.bind (gtM (lenM (.ok p_fallen)) (.ok (0 : Int))) fun (p_changed : Bool) =>
  (.ok (.nx (p_number, p_rounds, p_changed)))))))))
def m_lost_rounds (p_table : (Int × Int × (List (List (Int × Int))))) (p_driver_count : Int) (p_bad : (List Int)) : Res (List (Option Int)) :=
  (Res.bind (lcB (fun (x1 : (List (Int × Int))) => .ok true) (fun (x1 : (List (Int × Int))) => (.ok none)) (Res.bind (.ok p_table) fun a => .ok a.2.2)) fun (p_rounds : (List (Option Int))) =>
  (Res.bind (.ok (0 : Int)) fun (p_number : Int) =>
  (Res.bind (.ok true) fun (p_changed : Bool) =>
  (Res.bind (whB (fun (s_ : Int × (List (Option Int)) × Bool) => match s_ with
 | (p_number, p_rounds, p_changed) =>
  (.ok p_changed)) (m_lost_rounds_b17 p_table p_driver_count p_bad) (p_table.2.2.length + 2) (p_number, p_rounds, p_changed)) (Lp.el (fun (s_ : Int × (List (Option Int)) × Bool) => match s_ with
 | (p_number, p_rounds, p_changed) =>
  (.ok p_rounds)) (fun _ => .stuck))))))
def m_play_game_b8 (p_table : (Int × Int × (List (List (Int × Int))))) (p_driver_count : Int) (p_bad : (List Int)) (p_rounds : (List (Option Int))) (x_ : (Int × (Option Int))) (p_moves : (List (Option Int))) : Res ((List (Option Int))) :=
  match x_ with
 | (p_state, p_number) =>
  (appM p_moves (Res.ite (isNM (.ok p_number)) (someM (idxM (Res.bind (pairM (.ok p_table) (pairM (.ok p_driver_count) (pairM (.ok p_bad) (pairM (.ok p_rounds) (.ok p_state))))) fun a => m_good_moves (a.1) (a.2.1) (a.2.2.1) (a.2.2.2.1) (a.2.2.2.2)) (.ok (0 : Int)))) (.ok none)) fun p_moves =>
  (.ok p_moves))
def m_play_game (p_table : (Int × Int × (List (List (Int × Int))))) (p_driver_count : Int) (p_bad : (List Int)) : Res (Str × (List (Option Int))) :=
  (Res.bind (Res.bind (pairM (.ok p_table) (.ok p_driver_count)) fun a => m_check_driver (a.1) (a.2)) fun _ =>
  (Res.bind (Res.bind (pairM (.ok p_table) (pairM (.ok p_driver_count) (.ok p_bad))) fun a => m_lost_rounds (a.1) (a.2.1) (a.2.2)) fun (p_rounds : (List (Option Int))) =>
  (Res.ite (notNM (idxM (.ok p_rounds) (.ok (0 : Int))))
  (pairM (.ok ("lost" : Str)) (.ok p_rounds))
  (Res.bind (.ok []) fun (p_moves : (List (Option Int))) =>
  (Res.bind (Res.bind (enumM (.ok p_rounds)) fun xs => forM (m_play_game_b8 p_table p_driver_count p_bad p_rounds) xs p_moves) (fun (p_moves : (List (Option Int))) => (pairM (.ok ("safe" : Str)) (.ok p_moves))))))))
def m_is_move (p_driver_count : Int) (p_move : Int) : Res Bool :=
  (chainM (fun i j => decide (i ≤ j)) (fun i j => decide (i < j)) (.ok (0 : Int)) (.ok p_move) (shlM (.ok (1 : Int)) (.ok p_driver_count)))
def m_shows_safe_b8 (p_bad : (List Int)) (p_moves : (List (Option Int))) (x_ : (Int × Int)) (s_ : Unit) : Res (Tn (Unit) Bool) :=
  match x_ with
 | (p_target, p_answer) =>
  match s_ with
 | () =>
  (Res.ite (orM (inM (.ok p_answer) (.ok p_bad)) (isNM (idxM (.ok p_moves) (.ok p_target))))
  (Res.bind (.ok false) fun r => .ok (.rt r))
  (.ok (.nx ())))
def m_shows_safe_b9 (p_table : (Int × Int × (List (List (Int × Int))))) (p_driver_count : Int) (p_bad : (List Int)) (p_moves : (List (Option Int))) (x_ : (Int × (Option Int))) (s_ : Unit) : Res (Tn (Unit) Bool) :=
  match x_ with
 | (p_state, p_move) =>
  match s_ with
 | () =>
  (Res.ite (notNM (.ok p_move))
  (Res.ite (notM (Res.bind (pairM (.ok p_driver_count) (Res.bind (.ok p_move) getM)) fun a => m_is_move (a.1) (a.2)))
  (Res.bind (.ok false) fun r => .ok (.rt r))
  (Res.bind (Res.bind (Res.bind (pairM (.ok p_table) (pairM (.ok p_driver_count) (pairM (.ok p_state) (Res.bind (.ok p_move) getM)))) fun a => m_outcomes (a.1) (a.2.1) (a.2.2.1) (a.2.2.2)) fun xs => forB (m_shows_safe_b8 p_bad p_moves) xs ()) (Lp.el (fun (s_ : Unit) => match s_ with
 | () =>
  (.ok (.nx ()))) (fun r => .ok (.rt r)))))
  (.ok (.nx ())))
def m_shows_safe (p_table : (Int × Int × (List (List (Int × Int))))) (p_driver_count : Int) (p_bad : (List Int)) (p_moves : (List (Option Int))) : Res Bool :=
  (Res.bind (Res.bind (pairM (.ok p_table) (.ok p_driver_count)) fun a => m_check_driver (a.1) (a.2)) fun _ =>
  (Res.ite (orM (neM (lenM (.ok p_moves)) (Res.bind (.ok p_table) fun a => m_state_count a)) (isNM (idxM (.ok p_moves) (.ok (0 : Int)))))
  (.ok false)
  (Res.bind (Res.bind (enumM (.ok p_moves)) fun xs => forB (m_shows_safe_b9 p_table p_driver_count p_bad p_moves) xs ()) (Lp.el (fun (s_ : Unit) => match s_ with
 | () =>
  (.ok true)) (fun r => .ok r)))))
def m_is_spoilt (p_pairs : (List (Int × Int))) (p_bad : (List Int)) (p_rounds : (List (Option Int))) (p_number : Int) : Res Bool :=
  (anyM (lcB (fun (x1 : (Int × Int)) => .ok true) (fun (x1 : (Int × Int)) => (orM (inM (.ok x1.2) (.ok p_bad)) (andM (notNM (idxM (.ok p_rounds) (.ok x1.1))) (ltM (Res.bind (idxM (.ok p_rounds) (.ok x1.1)) getM) (.ok p_number))))) (.ok p_pairs)))
def m_shows_lost_b8 (p_table : (Int × Int × (List (List (Int × Int))))) (p_driver_count : Int) (p_bad : (List Int)) (p_rounds : (List (Option Int))) (p_state : Int) (p_number : (Option Int)) (p_move : Int) (s_ : Unit) : Res (Tn (Unit) Bool) :=
  match s_ with
 | () =>
  (Res.ite (notM (Res.bind (pairM (Res.bind (pairM (.ok p_table) (pairM (.ok p_driver_count) (pairM (.ok p_state) (.ok p_move)))) fun a => m_outcomes (a.1) (a.2.1) (a.2.2.1) (a.2.2.2)) (pairM (.ok p_bad) (pairM (.ok p_rounds) (Res.bind (.ok p_number) getM)))) fun a => m_is_spoilt (a.1) (a.2.1) (a.2.2.1) (a.2.2.2)))
  (Res.bind (.ok false) fun r => .ok (.rt r))
  (.ok (.nx ())))
def m_shows_lost_b9 (p_table : (Int × Int × (List (List (Int × Int))))) (p_driver_count : Int) (p_bad : (List Int)) (p_rounds : (List (Option Int))) (x_ : (Int × (Option Int))) (s_ : Unit) : Res (Tn (Unit) Bool) :=
  match x_ with
 | (p_state, p_number) =>
  match s_ with
 | () =>
  (Res.ite (notNM (.ok p_number))
  (Res.ite (ltM (Res.bind (.ok p_number) getM) (.ok (1 : Int)))
  (Res.bind (.ok false) fun r => .ok (.rt r))
  (Res.bind (Res.bind (rng1M (shlM (.ok (1 : Int)) (.ok p_driver_count))) fun xs => forB (m_shows_lost_b8 p_table p_driver_count p_bad p_rounds p_state p_number) xs ()) (Lp.el (fun (s_ : Unit) => match s_ with
 | () =>
  (.ok (.nx ()))) (fun r => .ok (.rt r)))))
  (.ok (.nx ())))
def m_shows_lost (p_table : (Int × Int × (List (List (Int × Int))))) (p_driver_count : Int) (p_bad : (List Int)) (p_rounds : (List (Option Int))) : Res Bool :=
  (Res.bind (Res.bind (pairM (.ok p_table) (.ok p_driver_count)) fun a => m_check_driver (a.1) (a.2)) fun _ =>
  (Res.ite (orM (neM (lenM (.ok p_rounds)) (Res.bind (.ok p_table) fun a => m_state_count a)) (isNM (idxM (.ok p_rounds) (.ok (0 : Int)))))
  (.ok false)
  (Res.bind (Res.bind (enumM (.ok p_rounds)) fun xs => forB (m_shows_lost_b9 p_table p_driver_count p_bad p_rounds) xs ()) (Lp.el (fun (s_ : Unit) => match s_ with
 | () =>
  (.ok true)) (fun r => .ok r)))))
def m_check_moves_b8 (p_moves : (List (Option Int))) (x_ : (Int × Int)) (s_ : Unit) : Res (Unit) :=
  match x_ with
 | (p_target, p_) =>
  match s_ with
 | () =>
  (Res.ite (isNM (idxM (.ok p_moves) (.ok p_target)))
  (.exc 1 [])
  (.ok ()))
def m_check_moves_b9 (p_table : (Int × Int × (List (List (Int × Int))))) (p_driver_count : Int) (p_moves : (List (Option Int))) (x_ : (Int × (Option Int))) (s_ : Unit) : Res (Unit) :=
  match x_ with
 | (p_state, p_move) =>
  match s_ with
 | () =>
  (Res.ite (notNM (.ok p_move))
  (Res.bind (Res.bind (Res.bind (pairM (.ok p_table) (pairM (.ok p_driver_count) (pairM (.ok p_state) (Res.bind (.ok p_move) getM)))) fun a => m_outcomes (a.1) (a.2.1) (a.2.2.1) (a.2.2.2)) fun xs => forM (m_check_moves_b8 p_moves) xs ()) (fun (s_ : Unit) => match s_ with
 | () =>
  (.ok ())))
  (.ok ()))
def m_check_moves_b10 (p_driver_count : Int) (p_move : (Option Int)) (s_ : Unit) : Res (Unit) :=
  match s_ with
 | () =>
  (Res.ite (andM (notNM (.ok p_move)) (notM (Res.bind (pairM (.ok p_driver_count) (Res.bind (.ok p_move) getM)) fun a => m_is_move (a.1) (a.2))))
  (.exc 1 [])
  (.ok ()))
def m_check_moves (p_table : (Int × Int × (List (List (Int × Int))))) (p_driver_count : Int) (p_moves : (List (Option Int))) : Res Unit :=
  (Res.ite (orM (neM (lenM (.ok p_moves)) (Res.bind (.ok p_table) fun a => m_state_count a)) (isNM (idxM (.ok p_moves) (.ok (0 : Int)))))
  (.exc 1 [])
  (Res.bind (Res.bind (.ok p_moves) fun xs => forM (m_check_moves_b10 p_driver_count) xs ()) (fun (s_ : Unit) => match s_ with
 | () =>
  (Res.bind (Res.bind (enumM (.ok p_moves)) fun xs => forM (m_check_moves_b9 p_table p_driver_count p_moves) xs ()) (fun (s_ : Unit) => match s_ with
 | () =>
  (.ok ()))))))
def m_driven_table_b13 (p_table : (Int × Int × (List (List (Int × Int))))) (p_driver_count : Int) (p_moves : (List (Option Int))) (p_places : (List (Int × Int))) (p_state : Int) (p_rows : (List (List (Int × Int)))) : Res ((List (List (Int × Int)))) :=
  (Res.bind (Res.bind (pairM (.ok p_table) (pairM (.ok p_driver_count) (pairM (.ok p_state) (Res.bind (idxM (.ok p_moves) (.ok p_state)) getM)))) fun a => m_outcomes (a.1) (a.2.1) (a.2.2.1) (a.2.2.2)) fun (p_pairs : (List (Int × Int))) =>
  (appM p_rows (Res.bind (lcB (fun (x10 : (Int × Int)) => .ok true) (fun (x10 : (Int × Int)) => (pairM (dgetM p_places (.ok x10.1)) (.ok x10.2))) (.ok p_pairs)) .ok) fun p_rows =>
  (.ok p_rows)))
def m_driven_table_b14  (x_ : (Int × (Option Int))) (p_places : (List (Int × Int))) : Res ((List (Int × Int))) :=
  match x_ with
 | (p_state, p_move) =>
  (Res.ite (notNM (.ok p_move))
  (dputM p_places (.ok p_state) (.ok (p_places.length : Int)) fun p_places =>
  (.ok p_places))
  (.ok p_places))
def m_driven_table (p_table : (Int × Int × (List (List (Int × Int))))) (p_driver_count : Int) (p_moves : (List (Option Int))) : Res (Int × Int × (List (List (Int × Int)))) :=
  (Res.bind (Res.bind (pairM (.ok p_table) (.ok p_driver_count)) fun a => m_check_driver (a.1) (a.2)) fun _ =>
  (Res.bind (Res.bind (pairM (.ok p_table) (pairM (.ok p_driver_count) (.ok p_moves))) fun a => m_check_moves (a.1) (a.2.1) (a.2.2)) fun _ =>
  (Res.bind (.ok []) fun (p_places : (List (Int × Int))) =>
  (Res.bind (Res.bind (enumM (.ok p_moves)) fun xs => forM m_driven_table_b14 xs p_places) (fun (p_places : (List (Int × Int))) => (Res.bind (.ok []) fun (p_rows : (List (List (Int × Int)))) =>
  (Res.bind (Res.bind (.ok (p_places.map (·.1))) fun xs => forM (m_driven_table_b13 p_table p_driver_count p_moves p_places) xs p_rows) (fun (p_rows : (List (List (Int × Int)))) => (pairM (subM (Res.bind (.ok p_table) fun a => .ok a.1) (.ok p_driver_count)) (pairM (Res.bind (.ok p_table) fun a => .ok a.2.1) (Res.bind (.ok p_rows) .ok)))))))))))
def m_law_far (p_script : (List Int)) (p_k : Int) : Res Int :=
  (Res.ite (eqM (lenM (.ok p_script)) (.ok (0 : Int)))
  (addM (mulM (.ok (97 : Int)) (.ok p_k)) (.ok (5 : Int)))
  (Res.ite (ltM (.ok p_k) (lenM (.ok p_script)))
  (idxM (.ok p_script) (.ok p_k))
  (addM (idxM (.ok p_script) (modM (Res.bind (.ok p_k) .ok) (lenM (.ok p_script)))) (mulM (.ok (1000003 : Int)) (.ok p_k)))))
def m_law_parts_b11 (p_cell : Int) (p_sizes : (List Int)) (p_k : Int) (s_ : (List Int) × Int) : Res ((List Int) × Int) :=
  match s_ with
 | (p_parts, p_rest) =>
  (Res.ite (geM (.ok p_rest) (.ok (0 : Int)))
  (appM p_parts (modM (Res.bind (.ok p_rest) .ok) (idxM (.ok p_sizes) (.ok p_k))) fun p_parts =>
  (Res.bind (fdivM (.ok p_rest) (idxM (.ok p_sizes) (.ok p_k))) fun (p_rest : Int) =>
  (.ok (p_parts, p_rest))))
  (Res.bind (modM (Res.bind (addM (addM (mulM (.ok p_cell) (.ok (48271 : Int))) (mulM (.ok p_k) (.ok (69621 : Int)))) (.ok (11 : Int))) .ok) (.ok (2147483647 : Int))) fun (p_mixed : Int) =>
  (Res.bind (modM (Res.bind (addM (addM (mulM (.ok p_mixed) (.ok p_mixed)) (mulM (.ok (16807 : Int)) (.ok p_k))) (.ok (5 : Int))) .ok) (.ok (998244353 : Int))) fun (p_mixed : Int) =>
  (appM p_parts (modM (Res.bind (.ok p_mixed) .ok) (idxM (.ok p_sizes) (.ok p_k))) fun p_parts =>
  (.ok (p_parts, p_rest))))))
def m_law_parts (p_cell : Int) (p_sizes : (List Int)) : Res (List Int) :=
  (Res.bind (.ok []) fun (p_parts : (List Int)) =>
  (Res.bind (subM (.ok p_cell) (powM (.ok (10 : Int)) (.ok (18 : Int)))) fun (p_rest : Int) =>
  (Res.bind (Res.bind (rng1M (lenM (.ok p_sizes))) fun xs => forM (m_law_parts_b11 p_cell p_sizes) xs (p_parts, p_rest)) (fun (s_ : (List Int) × Int) => match s_ with
 | (p_parts, p_rest) =>
  (.ok p_parts)))))
def m_law_is_integer (p_actual : (Option Int)) : Res Bool :=
  (andM (Res.bind (.ok p_actual) fun o => .ok (o.isSome)) (notM (Res.bind (.ok p_actual) fun o => .ok (false))))
def m_law_drawn_b8 (p_script : (List Int)) (p_at : Int) (p_inputs : Int) (p_outputs : Int) (p_states : Int) (p_k : Int) (p_rows : (List (List (Int × Int)))) : Res ((List (List (Int × Int)))) :=
  (Res.bind (Res.bind (pairM (Res.bind (pairM (.ok p_script) (addM (.ok p_at) (.ok p_k))) fun a => m_law_far (a.1) (a.2)) (repM (consM (.ok (64 : Int)) (consM (.ok (64 : Int)) (.ok []))) (shlM (.ok (1 : Int)) (.ok p_inputs)))) fun a => m_law_parts (a.1) (a.2)) fun (p_parts : (List Int)) =>
  (Res.bind (lcB (fun (x4 : Int) => .ok true) (fun (x4 : Int) => (pairM (modM (Res.bind (idxM (.ok p_parts) (mulM (.ok (2 : Int)) (.ok x4))) .ok) (.ok p_states)) (modM (Res.bind (idxM (.ok p_parts) (addM (mulM (.ok (2 : Int)) (.ok x4)) (.ok (1 : Int)))) .ok) (shlM (.ok (1 : Int)) (.ok p_outputs))))) (rng1M (shlM (.ok (1 : Int)) (.ok p_inputs)))) fun (p_row : (List (Int × Int))) =>
  (appM p_rows (Res.bind (.ok p_row) .ok) fun p_rows =>
  (.ok p_rows))))
def m_law_drawn (p_script : (List Int)) (p_at : Int) (p_inputs : Int) (p_outputs : Int) (p_states : Int) : Res (Int × Int × (List (List (Int × Int)))) :=
  (Res.bind (.ok []) fun (p_rows : (List (List (Int × Int)))) =>
  (Res.bind (Res.bind (rng1M (.ok p_states)) fun xs => forM (m_law_drawn_b8 p_script p_at p_inputs p_outputs p_states) xs p_rows) (fun (p_rows : (List (List (Int × Int)))) => (pairM (.ok p_inputs) (pairM (.ok p_outputs) (Res.bind (.ok p_rows) .ok))))))
def m_law_same_table_b8  (p_pair : (Int × Int)) (s_ : Unit) : Res (Tn (Unit) Bool) :=
  match s_ with
 | () =>
  (Res.ite (orM (notM (Res.bind (.ok p_pair) fun _ => .ok true)) (neM (Res.bind (.ok p_pair) fun _ => .ok (2 : Int)) (.ok (2 : Int))))
  (Res.bind (.ok false) fun r => .ok (.rt r))
  (Res.ite (orM (notM (Res.bind (someM (Res.bind (.ok p_pair) fun a => .ok a.1)) fun a => m_law_is_integer a)) (notM (Res.bind (someM (Res.bind (.ok p_pair) fun a => .ok a.2)) fun a => m_law_is_integer a)))
  (Res.bind (.ok false) fun r => .ok (.rt r))
  (.ok (.nx ()))))
def m_law_same_table_b9  (p_row : (List (Int × Int))) (s_ : Unit) : Res (Tn (Unit) Bool) :=
  match s_ with
 | () =>
  (Res.ite (notM (Res.bind (.ok p_row) fun _ => .ok true))
  (Res.bind (.ok false) fun r => .ok (.rt r))
  (Res.bind (Res.bind (.ok p_row) fun xs => forB m_law_same_table_b8 xs ()) (Lp.el (fun (s_ : Unit) => match s_ with
 | () =>
  (.ok (.nx ()))) (fun r => .ok (.rt r)))))
def m_law_same_table (p_actual : (Int × Int × (List (List (Int × Int))))) (p_expected : (Int × Int × (List (List (Int × Int))))) : Res Bool :=
  (Res.ite (orM (notM (Res.bind (.ok p_actual) fun _ => .ok true)) (orM (neM (Res.bind (.ok p_actual) fun _ => .ok (3 : Int)) (.ok (3 : Int))) (notM (Res.bind (Res.bind (.ok p_actual) fun a => .ok a.2.2) fun _ => .ok true))))
  (.ok false)
  (Res.ite (orM (notM (Res.bind (someM (Res.bind (.ok p_actual) fun a => .ok a.1)) fun a => m_law_is_integer a)) (notM (Res.bind (someM (Res.bind (.ok p_actual) fun a => .ok a.2.1)) fun a => m_law_is_integer a)))
  (.ok false)
  (Res.bind (Res.bind (Res.bind (.ok p_actual) fun a => .ok a.2.2) fun xs => forB m_law_same_table_b9 xs ()) (Lp.el (fun (s_ : Unit) => match s_ with
 | () =>
  (eqM (.ok p_actual) (.ok p_expected))) (fun r => .ok r)))))
def m_law_chained_j6 (p_rows : (List (List (Int × Int)))) (s_ : (List (Int × Int))) : Res ((List (List (Int × Int)))) :=
  match s_ with
 | p_row =>
  (appM p_rows (Res.bind (.ok p_row) .ok) fun p_rows =>
  (.ok p_rows))
def m_law_chained_b12 (p_table : (Int × Int × (List (List (Int × Int))))) (p_drivers : Int) (p_state : Int) (p_parts : (List Int)) (p_move : Int) (p_row : (List (Int × Int))) : Res ((List (Int × Int))) :=
  (Res.bind (modM (Res.bind (idxM (.ok p_parts) (mulM (.ok (2 : Int)) (.ok p_move))) .ok) (shlM (.ok (1 : Int)) (subM (Res.bind (.ok p_table) fun a => .ok a.1) (.ok p_drivers)))) fun (p_other : Int) =>
  (setM p_row (addM (.ok p_move) (mulM (.ok p_other) (shlM (.ok (1 : Int)) (.ok p_drivers)))) (pairM (addM (.ok p_state) (.ok (1 : Int))) (modM (Res.bind (idxM (.ok p_parts) (addM (mulM (.ok (2 : Int)) (.ok p_move)) (.ok (1 : Int)))) .ok) (shlM (.ok (1 : Int)) (Res.bind (.ok p_table) fun a => .ok a.2.1)))) fun p_row =>
  (.ok p_row)))
def m_law_chained_b14 (p_table : (Int × Int × (List (List (Int × Int))))) (p_drivers : Int) (p_cell : Int) (p_state : Int) (p_rows : (List (List (Int × Int)))) : Res ((List (List (Int × Int)))) :=
  (Res.bind (Res.bind (idxM (Res.bind (.ok p_table) fun a => .ok a.2.2) (.ok p_state)) .ok) fun (p_row : (List (Int × Int))) =>
  (Res.bind (Res.bind (pairM (addM (.ok p_cell) (.ok p_state)) (repM (consM (.ok (8 : Int)) (consM (.ok (64 : Int)) (.ok []))) (shlM (.ok (1 : Int)) (.ok p_drivers)))) fun a => m_law_parts (a.1) (a.2)) fun (p_parts : (List Int)) =>
  (Res.ite (ltM (addM (.ok p_state) (.ok (1 : Int))) (lenM (Res.bind (.ok p_table) fun a => .ok a.2.2)))
  (Res.bind (Res.bind (rng1M (shlM (.ok (1 : Int)) (.ok p_drivers))) fun xs => forM (m_law_chained_b12 p_table p_drivers p_state p_parts) xs p_row) (fun (p_row : (List (Int × Int))) => (m_law_chained_j6 p_rows p_row)))
  (m_law_chained_j6 p_rows p_row))))
def m_law_chained (p_table : (Int × Int × (List (List (Int × Int))))) (p_drivers : Int) (p_cell : Int) : Res (Int × Int × (List (List (Int × Int)))) :=
  (Res.bind (.ok []) fun (p_rows : (List (List (Int × Int)))) =>
  (Res.bind (Res.bind (rng1M (lenM (Res.bind (.ok p_table) fun a => .ok a.2.2))) fun xs => forM (m_law_chained_b14 p_table p_drivers p_cell) xs p_rows) (fun (p_rows : (List (List (Int × Int)))) => (pairM (Res.bind (.ok p_table) fun a => .ok a.1) (pairM (Res.bind (.ok p_table) fun a => .ok a.2.1) (Res.bind (.ok p_rows) .ok))))))
def m_law_outcomes (p_table : (Int × Int × (List (List (Int × Int))))) (p_drivers : Int) (p_state : Int) (p_move : Int) : Res (List (Int × Int)) :=
  (lcB (fun (x1 : Int) => .ok true) (fun (x1 : Int) => (idxM (idxM (Res.bind (.ok p_table) fun a => .ok a.2.2) (.ok p_state)) (addM (.ok p_move) (mulM (.ok x1) (shlM (.ok (1 : Int)) (.ok p_drivers)))))) (rng1M (shlM (.ok (1 : Int)) (subM (Res.bind (.ok p_table) fun a => .ok a.1) (.ok p_drivers)))))
def m_law_rounds_b18 (p_table : (Int × Int × (List (List (Int × Int))))) (p_drivers : Int) (p_bad : (List Int)) (p_forced : (List Bool)) (p_state : Int) (p_move : Int) (p_good : Int) : Res (Int) :=
  (Res.bind (Res.bind (pairM (.ok p_table) (pairM (.ok p_drivers) (pairM (.ok p_state) (.ok p_move)))) fun a => m_law_outcomes (a.1) (a.2.1) (a.2.2.1) (a.2.2.2)) fun (p_pairs : (List (Int × Int))) =>
  (Res.ite (eqM (lenM (lcB (fun (x12 : (Int × Int)) => (orM (inM (Res.bind (.ok x12) fun a => .ok a.2) (.ok p_bad)) (idxM (.ok p_forced) (Res.bind (.ok x12) fun a => .ok a.1)))) (fun (x12 : (Int × Int)) => (.ok x12)) (.ok p_pairs))) (.ok (0 : Int)))
  (Res.bind (addM (.ok p_good) (.ok (1 : Int))) fun (p_good : Int) =>
  (.ok p_good))
  (.ok p_good)))
def m_law_rounds_b21 (p_table : (Int × Int × (List (List (Int × Int))))) (p_drivers : Int) (p_bad : (List Int)) (p_forced : (List Bool)) (p_turn : Int) (p_state : Int) (s_ : (List Bool) × (List (Option Int))) : Res ((List Bool) × (List (Option Int))) :=
  match s_ with
 | (p_following, p_rounds) =>
  (Res.bind (.ok (0 : Int)) fun (p_good : Int) =>
  (Res.bind (Res.bind (rng1M (shlM (.ok (1 : Int)) (.ok p_drivers))) fun xs => forM (m_law_rounds_b18 p_table p_drivers p_bad p_forced p_state) xs p_good) (fun (p_good : Int) => (appM p_following (eqM (.ok p_good) (.ok (0 : Int))) fun p_following =>
  (Res.ite (andM (eqM (.ok p_good) (.ok (0 : Int))) (isNM (idxM (.ok p_rounds) (.ok p_state))))
  (setM p_rounds (.ok p_state) (someM (.ok p_turn)) fun p_rounds =>
  (.ok (p_following, p_rounds)))
  (.ok (p_following, p_rounds)))))))
def m_law_rounds_b23 (p_table : (Int × Int × (List (List (Int × Int))))) (p_drivers : Int) (p_bad : (List Int)) (p_turn : Int) (s_ : (List (Option Int)) × (List Bool)) : Res ((List (Option Int)) × (List Bool)) :=
  match s_ with
 | (p_rounds, p_forced) =>
  (Res.bind (.ok []) fun (p_following : (List Bool)) =>
  (Res.bind (Res.bind (rng1M (lenM (.ok p_rounds))) fun xs => forM (m_law_rounds_b21 p_table p_drivers p_bad p_forced p_turn) xs (p_following, p_rounds)) (fun (s_ : (List Bool) × (List (Option Int))) => match s_ with
 | (p_following, p_rounds) =>
  (Res.bind (.ok p_following) fun (p_forced : (List Bool)) =>
  (.ok (p_rounds, p_forced))))))
def m_law_rounds (p_table : (Int × Int × (List (List (Int × Int))))) (p_drivers : Int) (p_bad : (List Int)) : Res (List (Option Int)) :=
  (Res.bind (lcB (fun (x1 : (List (Int × Int))) => .ok true) (fun (x1 : (List (Int × Int))) => (.ok none)) (Res.bind (.ok p_table) fun a => .ok a.2.2)) fun (p_rounds : (List (Option Int))) =>
  (Res.bind (lcB (fun (x3 : (List (Int × Int))) => .ok true) (fun (x3 : (List (Int × Int))) => (.ok false)) (Res.bind (.ok p_table) fun a => .ok a.2.2)) fun (p_forced : (List Bool)) =>
  (Res.bind (Res.bind (rng2M (.ok (1 : Int)) (addM (.ok (1 : Int)) (lenM (.ok p_rounds)))) fun xs => forM (m_law_rounds_b23 p_table p_drivers p_bad) xs (p_rounds, p_forced)) (fun (s_ : (List (Option Int)) × (List Bool)) => match s_ with
 | (p_rounds, p_forced) =>
  (.ok p_rounds)))))
def m_law_moves_j5 (p_moves : (List (Option Int))) (s_ : (List (Option Int))) : Res ((List (Option Int))) :=
  match s_ with
 | p_good =>
  (appM p_moves (idxM (catM (.ok p_good) (consM (.ok none) (.ok []))) (.ok (1 : Int))) fun p_moves =>
  (.ok p_moves))
def m_law_moves_b14 (p_table : (Int × Int × (List (List (Int × Int))))) (p_drivers : Int) (p_bad : (List Int)) (p_rounds : (List (Option Int))) (p_state : Int) (p_move : Int) (p_good : (List (Option Int))) : Res ((List (Option Int))) :=
  (Res.bind (Res.bind (pairM (.ok p_table) (pairM (.ok p_drivers) (pairM (.ok p_state) (.ok p_move)))) fun a => m_law_outcomes (a.1) (a.2.1) (a.2.2.1) (a.2.2.2)) fun (p_pairs : (List (Int × Int))) =>
  (Res.ite (eqM (lenM (lcB (fun (x11 : (Int × Int)) => (orM (inM (Res.bind (.ok x11) fun a => .ok a.2) (.ok p_bad)) (notNM (idxM (.ok p_rounds) (Res.bind (.ok x11) fun a => .ok a.1))))) (fun (x11 : (Int × Int)) => (.ok x11)) (.ok p_pairs))) (.ok (0 : Int)))
  (appM p_good (someM (.ok p_move)) fun p_good =>
  (.ok p_good))
  (.ok p_good)))
def m_law_moves_b16 (p_table : (Int × Int × (List (List (Int × Int))))) (p_drivers : Int) (p_bad : (List Int)) (p_rounds : (List (Option Int))) (p_state : Int) (p_moves : (List (Option Int))) : Res ((List (Option Int))) :=
  (Res.bind (consM (.ok none) (.ok [])) fun (p_good : (List (Option Int))) =>
  (Res.ite (isNM (idxM (.ok p_rounds) (.ok p_state)))
  (Res.bind (Res.bind (rng1M (shlM (.ok (1 : Int)) (.ok p_drivers))) fun xs => forM (m_law_moves_b14 p_table p_drivers p_bad p_rounds p_state) xs p_good) (fun (p_good : (List (Option Int))) => (m_law_moves_j5 p_moves p_good)))
  (m_law_moves_j5 p_moves p_good)))
def m_law_moves (p_table : (Int × Int × (List (List (Int × Int))))) (p_drivers : Int) (p_bad : (List Int)) (p_rounds : (List (Option Int))) : Res (List (Option Int)) :=
  (Res.bind (.ok []) fun (p_moves : (List (Option Int))) =>
  (Res.bind (Res.bind (rng1M (lenM (.ok p_rounds))) fun xs => forM (m_law_moves_b16 p_table p_drivers p_bad p_rounds) xs p_moves) (fun (p_moves : (List (Option Int))) => (.ok p_moves))))
def m_law_usable_b7 (p_moves : (List (Option Int))) (x_ : (Int × Int)) (s_ : Unit) : Res (Tn (Unit) Bool) :=
  match x_ with
 | (p_target, p_answer) =>
  match s_ with
 | () =>
  (Res.ite (isNM (idxM (.ok p_moves) (.ok p_target)))
  (Res.bind (.ok false) fun r => .ok (.rt r))
  (.ok (.nx ())))
def m_law_usable_b8 (p_table : (Int × Int × (List (List (Int × Int))))) (p_drivers : Int) (p_moves : (List (Option Int))) (p_state : Int) (s_ : Unit) : Res (Tn (Unit) Bool) :=
  match s_ with
 | () =>
  (Res.ite (notNM (idxM (.ok p_moves) (.ok p_state)))
  (Res.ite (orM (ltM (Res.bind (idxM (.ok p_moves) (.ok p_state)) getM) (.ok (0 : Int))) (geM (Res.bind (idxM (.ok p_moves) (.ok p_state)) getM) (shlM (.ok (1 : Int)) (.ok p_drivers))))
  (Res.bind (.ok false) fun r => .ok (.rt r))
  (Res.bind (Res.bind (Res.bind (pairM (.ok p_table) (pairM (.ok p_drivers) (pairM (.ok p_state) (Res.bind (idxM (.ok p_moves) (.ok p_state)) getM)))) fun a => m_law_outcomes (a.1) (a.2.1) (a.2.2.1) (a.2.2.2)) fun xs => forB (m_law_usable_b7 p_moves) xs ()) (Lp.el (fun (s_ : Unit) => match s_ with
 | () =>
  (.ok (.nx ()))) (fun r => .ok (.rt r)))))
  (.ok (.nx ())))
def m_law_usable (p_table : (Int × Int × (List (List (Int × Int))))) (p_drivers : Int) (p_moves : (List (Option Int))) : Res Bool :=
  (Res.ite (orM (neM (lenM (.ok p_moves)) (lenM (Res.bind (.ok p_table) fun a => .ok a.2.2))) (isNM (idxM (.ok p_moves) (.ok (0 : Int)))))
  (.ok false)
  (Res.bind (Res.bind (rng1M (lenM (.ok p_moves))) fun xs => forB (m_law_usable_b8 p_table p_drivers p_moves) xs ()) (Lp.el (fun (s_ : Unit) => match s_ with
 | () =>
  (.ok true)) (fun r => .ok r))))
def m_law_safe_b7 (p_table : (Int × Int × (List (List (Int × Int))))) (p_drivers : Int) (p_bad : (List Int)) (p_moves : (List (Option Int))) (p_state : Int) (s_ : Unit) : Res (Tn (Unit) Bool) :=
  match s_ with
 | () =>
  (Res.ite (notNM (idxM (.ok p_moves) (.ok p_state)))
  (Res.bind (Res.bind (pairM (.ok p_table) (pairM (.ok p_drivers) (pairM (.ok p_state) (Res.bind (idxM (.ok p_moves) (.ok p_state)) getM)))) fun a => m_law_outcomes (a.1) (a.2.1) (a.2.2.1) (a.2.2.2)) fun (p_pairs : (List (Int × Int))) =>
  (Res.ite (gtM (lenM (lcB (fun (x5 : (Int × Int)) => (inM (Res.bind (.ok x5) fun a => .ok a.2) (.ok p_bad))) (fun (x5 : (Int × Int)) => (.ok x5)) (.ok p_pairs))) (.ok (0 : Int)))
  (Res.bind (.ok false) fun r => .ok (.rt r))
  (.ok (.nx ()))))
  (.ok (.nx ())))
def m_law_safe (p_table : (Int × Int × (List (List (Int × Int))))) (p_drivers : Int) (p_bad : (List Int)) (p_moves : (List (Option Int))) : Res Bool :=
  (Res.ite (notM (Res.bind (pairM (.ok p_table) (pairM (.ok p_drivers) (.ok p_moves))) fun a => m_law_usable (a.1) (a.2.1) (a.2.2)))
  (.ok false)
  (Res.bind (Res.bind (rng1M (lenM (.ok p_moves))) fun xs => forB (m_law_safe_b7 p_table p_drivers p_bad p_moves) xs ()) (Lp.el (fun (s_ : Unit) => match s_ with
 | () =>
  (.ok true)) (fun r => .ok r))))
def m_law_lost_b11 (p_bad : (List Int)) (p_rounds : (List (Option Int))) (p_state : Int) (x_ : (Int × Int)) (p_wins : Int) : Res (Int) :=
  match x_ with
 | (p_target, p_answer) =>
  (Res.ite (orM (inM (.ok p_answer) (.ok p_bad)) (andM (notNM (idxM (.ok p_rounds) (.ok p_target))) (ltM (Res.bind (idxM (.ok p_rounds) (.ok p_target)) getM) (Res.bind (idxM (.ok p_rounds) (.ok p_state)) getM))))
  (Res.bind (addM (.ok p_wins) (.ok (1 : Int))) fun (p_wins : Int) =>
  (.ok p_wins))
  (.ok p_wins))
def m_law_lost_b12 (p_table : (Int × Int × (List (List (Int × Int))))) (p_drivers : Int) (p_bad : (List Int)) (p_rounds : (List (Option Int))) (p_state : Int) (p_move : Int) (s_ : Unit) : Res (Tn (Unit) Bool) :=
  match s_ with
 | () =>
  (Res.bind (.ok (0 : Int)) fun (p_wins : Int) =>
  (Res.bind (Res.bind (Res.bind (pairM (.ok p_table) (pairM (.ok p_drivers) (pairM (.ok p_state) (.ok p_move)))) fun a => m_law_outcomes (a.1) (a.2.1) (a.2.2.1) (a.2.2.2)) fun xs => forM (m_law_lost_b11 p_bad p_rounds p_state) xs p_wins) (fun (p_wins : Int) => (Res.ite (eqM (.ok p_wins) (.ok (0 : Int)))
  (Res.bind (.ok false) fun r => .ok (.rt r))
  (.ok (.nx ()))))))
def m_law_lost_b13 (p_table : (Int × Int × (List (List (Int × Int))))) (p_drivers : Int) (p_bad : (List Int)) (p_rounds : (List (Option Int))) (p_state : Int) (s_ : Unit) : Res (Tn (Unit) Bool) :=
  match s_ with
 | () =>
  (Res.ite (notNM (idxM (.ok p_rounds) (.ok p_state)))
  (Res.ite (ltM (Res.bind (idxM (.ok p_rounds) (.ok p_state)) getM) (.ok (1 : Int)))
  (Res.bind (.ok false) fun r => .ok (.rt r))
  (Res.bind (Res.bind (rng1M (shlM (.ok (1 : Int)) (.ok p_drivers))) fun xs => forB (m_law_lost_b12 p_table p_drivers p_bad p_rounds p_state) xs ()) (Lp.el (fun (s_ : Unit) => match s_ with
 | () =>
  (.ok (.nx ()))) (fun r => .ok (.rt r)))))
  (.ok (.nx ())))
def m_law_lost (p_table : (Int × Int × (List (List (Int × Int))))) (p_drivers : Int) (p_bad : (List Int)) (p_rounds : (List (Option Int))) : Res Bool :=
  (Res.ite (orM (neM (lenM (.ok p_rounds)) (lenM (Res.bind (.ok p_table) fun a => .ok a.2.2))) (isNM (idxM (.ok p_rounds) (.ok (0 : Int)))))
  (.ok false)
  (Res.bind (Res.bind (rng1M (lenM (.ok p_rounds))) fun xs => forB (m_law_lost_b13 p_table p_drivers p_bad p_rounds) xs ()) (Lp.el (fun (s_ : Unit) => match s_ with
 | () =>
  (.ok true)) (fun r => .ok r))))
def m_law_driven_b9 (p_table : (Int × Int × (List (List (Int × Int))))) (p_drivers : Int) (p_moves : (List (Option Int))) (p_left : (List Int)) (p_state : Int) (p_rows : (List (List (Int × Int)))) : Res ((List (List (Int × Int)))) :=
  (Res.bind (Res.bind (pairM (.ok p_table) (pairM (.ok p_drivers) (pairM (.ok p_state) (Res.bind (idxM (.ok p_moves) (.ok p_state)) getM)))) fun a => m_law_outcomes (a.1) (a.2.1) (a.2.2.1) (a.2.2.2)) fun (p_pairs : (List (Int × Int))) =>
  (appM p_rows (Res.bind (lcB (fun (x6 : (Int × Int)) => .ok true) (fun (x6 : (Int × Int)) => (pairM (indexM (.ok p_left) (Res.bind (.ok x6) fun a => .ok a.1)) (Res.bind (.ok x6) fun a => .ok a.2))) (.ok p_pairs)) .ok) fun p_rows =>
  (.ok p_rows)))
def m_law_driven (p_table : (Int × Int × (List (List (Int × Int))))) (p_drivers : Int) (p_moves : (List (Option Int))) : Res (Int × Int × (List (List (Int × Int)))) :=
  (Res.bind (lcB (fun (x1 : Int) => (notNM (idxM (.ok p_moves) (.ok x1)))) (fun (x1 : Int) => (.ok x1)) (rng1M (lenM (.ok p_moves)))) fun (p_left : (List Int)) =>
  (Res.bind (.ok []) fun (p_rows : (List (List (Int × Int)))) =>
  (Res.bind (Res.bind (.ok p_left) fun xs => forM (m_law_driven_b9 p_table p_drivers p_moves p_left) xs p_rows) (fun (p_rows : (List (List (Int × Int)))) => (pairM (subM (Res.bind (.ok p_table) fun a => .ok a.1) (.ok p_drivers)) (pairM (Res.bind (.ok p_table) fun a => .ok a.2.1) (Res.bind (.ok p_rows) .ok)))))))
def m_law_changed_j14  (s_ : (List (Option Int))) : Res (List (Option Int)) :=
  match s_ with
 | p_told =>
  (.ok p_told)
def m_law_changed_j8 (p_which : Int) (p_one : Int) (p_at : Int) (s_ : (List (Option Int))) : Res (List (Option Int)) :=
  match s_ with
 | p_told =>
  (Res.ite (eqM (.ok p_which) (.ok (4 : Int)))
  (sliceM (.ok p_told) (.ok none) (someM (negM (.ok (1 : Int)))))
  (Res.ite (eqM (.ok p_which) (.ok (5 : Int)))
  (catM (.ok p_told) (consM (someM (.ok p_one)) (.ok [])))
  (Res.ite (eqM (.ok p_which) (.ok (6 : Int)))
  (setM p_told (.ok p_at) (someM (negM (.ok (1 : Int)))) fun p_told =>
  (m_law_changed_j14 p_told))
  (m_law_changed_j14 p_told))))
def m_law_changed_j6 (p_which : Int) (p_one : Int) (p_at : Int) (s_ : (List (Option Int))) : Res (List (Option Int)) :=
  match s_ with
 | p_told =>
  (Res.ite (eqM (.ok p_which) (.ok (3 : Int)))
  (setM p_told (.ok (0 : Int)) (.ok none) fun p_told =>
  (m_law_changed_j8 p_which p_one p_at p_told))
  (m_law_changed_j8 p_which p_one p_at p_told))
def m_law_changed_j4 (p_which : Int) (p_one : Int) (p_at : Int) (s_ : (List (Option Int))) : Res (List (Option Int)) :=
  match s_ with
 | p_told =>
  (Res.ite (eqM (.ok p_which) (.ok (2 : Int)))
  (setM p_told (.ok p_at) (.ok none) fun p_told =>
  (m_law_changed_j6 p_which p_one p_at p_told))
  (m_law_changed_j6 p_which p_one p_at p_told))
def m_law_changed (p_numbers : (List (Option Int))) (p_which : Int) (p_place : Int) (p_one : Int) : Res (List (Option Int)) :=
  (Res.bind (Res.bind (.ok p_numbers) .ok) fun (p_told : (List (Option Int))) =>
  (Res.bind (modM (Res.bind (.ok p_place) .ok) (lenM (.ok p_told))) fun (p_at : Int) =>
  (Res.ite (eqM (.ok p_which) (.ok (1 : Int)))
  (setM p_told (.ok p_at) (someM (.ok p_one)) fun p_told =>
  (m_law_changed_j4 p_which p_one p_at p_told))
  (m_law_changed_j4 p_which p_one p_at p_told))))
def m_law_error (p_which : Int) (p_table : (Int × Int × (List (List (Int × Int))))) (p_drivers : Int) (p_bad : (List Int)) (p_items : (List (Option Int))) : Res Int :=
  (tryM (Res.ite (eqM (.ok p_which) (.ok (0 : Int)))
  (Res.bind (Res.bind (pairM (.ok p_table) (pairM (.ok p_drivers) (.ok p_bad))) fun a => m_play_game (a.1) (a.2.1) (a.2.2)) fun _ =>
  (.ok ()))
  (Res.ite (eqM (.ok p_which) (.ok (1 : Int)))
  (Res.bind (Res.bind (pairM (.ok p_table) (pairM (.ok p_drivers) (pairM (.ok p_bad) (.ok p_items)))) fun a => m_shows_safe (a.1) (a.2.1) (a.2.2.1) (a.2.2.2)) fun _ =>
  (.ok ()))
  (Res.ite (eqM (.ok p_which) (.ok (2 : Int)))
  (Res.bind (Res.bind (pairM (.ok p_table) (pairM (.ok p_drivers) (pairM (.ok p_bad) (.ok p_items)))) fun a => m_shows_lost (a.1) (a.2.1) (a.2.2.1) (a.2.2.2)) fun _ =>
  (.ok ()))
  (Res.bind (Res.bind (pairM (.ok p_table) (pairM (.ok p_drivers) (.ok p_items))) fun a => m_driven_table (a.1) (a.2.1) (a.2.2)) fun _ =>
  (.ok ()))))) (errM 2 (fun k => .ok ((firstT ((fun k => [decide (k = 0), decide (k = 1)]) k) : Nat) : Int))) (fun _ =>
  (negM (.ok (1 : Int)))))
def m_law_same_told_b7 (p_actual : (Str × (List (Option Int)))) (p_expected : (List (Option Int))) (p_k : Int) (s_ : Unit) : Res (Tn (Unit) Bool) :=
  match s_ with
 | () =>
  (Res.ite (isNM (idxM (.ok p_expected) (.ok p_k)))
  (Res.ite (notNM (idxM (Res.bind (.ok p_actual) fun a => .ok a.2) (.ok p_k)))
  (Res.bind (.ok false) fun r => .ok (.rt r))
  (.ok (.nx ())))
  (Res.ite (orM (notM (Res.bind (idxM (Res.bind (.ok p_actual) fun a => .ok a.2) (.ok p_k)) fun a => m_law_is_integer a)) (neM (idxM (Res.bind (.ok p_actual) fun a => .ok a.2) (.ok p_k)) (idxM (.ok p_expected) (.ok p_k))))
  (Res.bind (.ok false) fun r => .ok (.rt r))
  (.ok (.nx ()))))
def m_law_same_told (p_actual : (Str × (List (Option Int)))) (p_kind : Str) (p_expected : (List (Option Int))) : Res Bool :=
  (Res.ite (orM (notM (Res.bind (.ok p_actual) fun _ => .ok true)) (orM (neM (Res.bind (.ok p_actual) fun _ => .ok (2 : Int)) (.ok (2 : Int))) (orM (notM (Res.bind (Res.bind (.ok p_actual) fun a => .ok a.1) fun _ => .ok true)) (neM (Res.bind (.ok p_actual) fun a => .ok a.1) (.ok p_kind)))))
  (.ok false)
  (Res.ite (orM (notM (Res.bind (Res.bind (.ok p_actual) fun a => .ok a.2) fun _ => .ok true)) (neM (lenM (Res.bind (.ok p_actual) fun a => .ok a.2)) (lenM (.ok p_expected))))
  (.ok false)
  (Res.bind (Res.bind (rng1M (lenM (.ok p_expected))) fun xs => forB (m_law_same_told_b7 p_actual p_expected) xs ()) (Lp.el (fun (s_ : Unit) => match s_ with
 | () =>
  (.ok true)) (fun r => .ok r)))))
def m_law_right_moves (p_table : (Int × Int × (List (List (Int × Int))))) (p_drivers : Int) (p_bad : (List Int)) (p_moves : (List (Option Int))) (p_lost : Bool) : Res Bool :=
  (Res.bind (consM (Res.bind (Res.bind (.ok p_bad) .ok) fun xs => .ok (xs.map some)) (consM (Res.bind (.ok p_moves) .ok) (.ok []))) fun (p_passed : (List (List (Option Int)))) =>
  (Res.bind (Res.bind (pairM (.ok p_table) (pairM (.ok p_drivers) (pairM (Res.bind (idxM (.ok p_passed) (.ok (0 : Int))) fun xs => optM (allSome xs)) (idxM (.ok p_passed) (.ok (1 : Int)))))) fun a => m_shows_safe (a.1) (a.2.1) (a.2.2.1) (a.2.2.2)) fun (p_actual : Bool) =>
  (Res.ite (orM (neM (.ok p_passed) (consM (Res.bind (.ok p_bad) fun xs => .ok (xs.map some)) (consM (.ok p_moves) (.ok [])))) (orM (notM (Res.bind (.ok p_actual) fun _ => .ok true)) (neM (.ok p_actual) (Res.bind (pairM (.ok p_table) (pairM (.ok p_drivers) (pairM (.ok p_bad) (.ok p_moves)))) fun a => m_law_safe (a.1) (a.2.1) (a.2.2.1) (a.2.2.2)))))
  (.ok false)
  (Res.ite (andM (.ok p_actual) (.ok p_lost))
  (.ok false)
  (Res.ite (notM (Res.bind (pairM (.ok p_table) (pairM (.ok p_drivers) (.ok p_moves))) fun a => m_law_usable (a.1) (a.2.1) (a.2.2)))
  (eqM (Res.bind (pairM (.ok (3 : Int)) (pairM (.ok p_table) (pairM (.ok p_drivers) (pairM (.ok p_bad) (Res.bind (.ok p_moves) .ok))))) fun a => m_law_error (a.1) (a.2.1) (a.2.2.1) (a.2.2.2.1) (a.2.2.2.2)) (.ok (1 : Int)))
  (Res.bind (pairM (Res.bind (pairM (.ok p_table) (pairM (.ok p_drivers) (idxM (.ok p_passed) (.ok (1 : Int))))) fun a => m_driven_table (a.1) (a.2.1) (a.2.2)) (Res.bind (pairM (.ok p_table) (pairM (.ok p_drivers) (.ok p_moves))) fun a => m_law_driven (a.1) (a.2.1) (a.2.2))) fun a => m_law_same_table (a.1) (a.2)))))))
def m_law_right_rounds (p_table : (Int × Int × (List (List (Int × Int))))) (p_drivers : Int) (p_bad : (List Int)) (p_rounds : (List (Option Int))) (p_lost : Bool) : Res Bool :=
  (Res.bind (consM (Res.bind (Res.bind (.ok p_bad) .ok) fun xs => .ok (xs.map some)) (consM (Res.bind (.ok p_rounds) .ok) (.ok []))) fun (p_passed : (List (List (Option Int)))) =>
  (Res.bind (Res.bind (pairM (.ok p_table) (pairM (.ok p_drivers) (pairM (Res.bind (idxM (.ok p_passed) (.ok (0 : Int))) fun xs => optM (allSome xs)) (idxM (.ok p_passed) (.ok (1 : Int)))))) fun a => m_shows_lost (a.1) (a.2.1) (a.2.2.1) (a.2.2.2)) fun (p_actual : Bool) =>
  (Res.ite (orM (neM (.ok p_passed) (consM (Res.bind (.ok p_bad) fun xs => .ok (xs.map some)) (consM (.ok p_rounds) (.ok [])))) (orM (notM (Res.bind (.ok p_actual) fun _ => .ok true)) (neM (.ok p_actual) (Res.bind (pairM (.ok p_table) (pairM (.ok p_drivers) (pairM (.ok p_bad) (.ok p_rounds)))) fun a => m_law_lost (a.1) (a.2.1) (a.2.2.1) (a.2.2.2)))))
  (.ok false)
  (orM (.ok p_lost) (notM (.ok p_actual))))))
def m_law_j32 (p_drivers : Int) (p_table : (Int × Int × (List (List (Int × Int))))) (p_bad : (List Int)) (p_lost : Bool) (s_ : (List (Option Int))) : Res (Tn (Unit) Bool) :=
  match s_ with
 | p_items =>
  (Res.ite (notM (Res.bind (pairM (.ok p_table) (pairM (.ok p_drivers) (pairM (.ok p_bad) (pairM (.ok p_items) (.ok p_lost))))) fun a => m_law_right_rounds (a.1) (a.2.1) (a.2.2.1) (a.2.2.2.1) (a.2.2.2.2)))
  (Res.bind (.ok false) fun r => .ok (.rt r))
  (.ok (.nx ())))
def m_law_j28 (p_drivers : Int) (p_table : (Int × Int × (List (List (Int × Int))))) (p_bad : (List Int)) (p_rounds : (List (Option Int))) (p_lost : Bool) (p_parts : (List Int)) (p_k : Int) (p_at : Int) (s_ : (List (Option Int))) : Res (Tn (Unit) Bool) :=
  match s_ with
 | p_items =>
  (Res.ite (notM (Res.bind (pairM (.ok p_table) (pairM (.ok p_drivers) (pairM (.ok p_bad) (pairM (.ok p_items) (.ok p_lost))))) fun a => m_law_right_moves (a.1) (a.2.1) (a.2.2.1) (a.2.2.2.1) (a.2.2.2.2)))
  (Res.bind (.ok false) fun r => .ok (.rt r))
  (Res.bind (Res.bind (pairM (.ok p_rounds) (pairM (idxM (consM (idxM (.ok p_parts) (addM (.ok p_at) (.ok (3 : Int)))) (consM (.ok (0 : Int)) (.ok []))) (b2iM (eqM (.ok p_k) (.ok (0 : Int))))) (pairM (idxM (.ok p_parts) (addM (.ok p_at) (.ok (4 : Int)))) (addM (.ok (1 : Int)) (idxM (.ok p_parts) (addM (.ok p_at) (.ok (2 : Int)))))))) fun a => m_law_changed (a.1) (a.2.1) (a.2.2.1) (a.2.2.2)) fun (p_items : (List (Option Int))) =>
  (Res.ite (eqM (idxM (.ok p_parts) (addM (.ok p_at) (.ok (5 : Int)))) (.ok (1 : Int)))
  (Res.bind (lcB (fun (x34 : (Option Int)) => .ok true) (fun (x34 : (Option Int)) => (someM (addM (Res.bind (idxM (consM (.ok x34) (consM (someM (.ok (2 : Int))) (.ok []))) (b2iM (isNM (.ok x34)))) getM) (.ok (1 : Int))))) (.ok p_items)) fun (p_items : (List (Option Int))) =>
  (m_law_j32 p_drivers p_table p_bad p_lost p_items))
  (m_law_j32 p_drivers p_table p_bad p_lost p_items))))
def m_law_b43 (p_table : (Int × Int × (List (List (Int × Int))))) (p_bad : (List Int)) (p_wrong : Int) (p_which : Int) (s_ : Unit) : Res (Tn (Unit) Bool) :=
  match s_ with
 | () =>
  (Res.ite (neM (Res.bind (pairM (.ok p_which) (pairM (.ok p_table) (pairM (.ok p_wrong) (pairM (Res.bind (.ok p_bad) .ok) (lcB (fun (x41 : (List (Int × Int))) => .ok true) (fun (x41 : (List (Int × Int))) => (someM (.ok (0 : Int)))) (Res.bind (.ok p_table) fun a => .ok a.2.2)))))) fun a => m_law_error (a.1) (a.2.1) (a.2.2.1) (a.2.2.2.1) (a.2.2.2.2)) (.ok (0 : Int)))
  (Res.bind (.ok false) fun r => .ok (.rt r))
  (.ok (.nx ())))
def m_law_b44 (p_drivers : Int) (p_table : (Int × Int × (List (List (Int × Int))))) (p_bad : (List Int)) (p_rounds : (List (Option Int))) (p_moves : (List (Option Int))) (p_lost : Bool) (p_parts : (List Int)) (p_k : Int) (s_ : Unit) : Res (Tn (Unit) Bool) :=
  match s_ with
 | () =>
  (Res.bind (mulM (.ok (6 : Int)) (.ok p_k)) fun (p_at : Int) =>
  (Res.bind (Res.bind (pairM (.ok p_moves) (pairM (idxM (consM (idxM (.ok p_parts) (.ok p_at)) (consM (.ok (0 : Int)) (.ok []))) (b2iM (eqM (.ok p_k) (.ok (0 : Int))))) (pairM (idxM (.ok p_parts) (addM (.ok p_at) (.ok (1 : Int)))) (idxM (.ok p_parts) (addM (.ok p_at) (.ok (2 : Int))))))) fun a => m_law_changed (a.1) (a.2.1) (a.2.2.1) (a.2.2.2)) fun (p_items : (List (Option Int))) =>
  (Res.ite (eqM (idxM (.ok p_parts) (addM (.ok p_at) (.ok (5 : Int)))) (.ok (0 : Int)))
  (Res.bind (lcB (fun (x36 : (Option Int)) => .ok true) (fun (x36 : (Option Int)) => (idxM (consM (.ok x36) (consM (someM (.ok (0 : Int))) (.ok []))) (b2iM (isNM (.ok x36))))) (.ok p_items)) fun (p_items : (List (Option Int))) =>
  (m_law_j28 p_drivers p_table p_bad p_rounds p_lost p_parts p_k p_at p_items))
  (m_law_j28 p_drivers p_table p_bad p_rounds p_lost p_parts p_k p_at p_items))))
def m_law_j11 (p_script : (List Int)) (p_head : (List Int)) (p_inputs : Int) (p_drivers : Int) (p_table : (Int × Int × (List (List (Int × Int))))) (s_ : (List Int)) : Res Bool :=
  match s_ with
 | p_bad =>
  (Res.bind (Res.bind (pairM (.ok p_table) (pairM (.ok p_drivers) (.ok p_bad))) fun a => m_law_rounds (a.1) (a.2.1) (a.2.2)) fun (p_rounds : (List (Option Int))) =>
  (Res.bind (Res.bind (pairM (.ok p_table) (pairM (.ok p_drivers) (pairM (.ok p_bad) (.ok p_rounds)))) fun a => m_law_moves (a.1) (a.2.1) (a.2.2.1) (a.2.2.2)) fun (p_moves : (List (Option Int))) =>
  (Res.bind (notNM (idxM (.ok p_rounds) (.ok (0 : Int)))) fun (p_lost : Bool) =>
  (Res.bind (idxM (consM (.ok ("safe" : Str)) (consM (.ok ("lost" : Str)) (.ok []))) (b2iM (.ok p_lost))) fun (p_kind : Str) =>
  (Res.bind (idxM (consM (.ok p_moves) (consM (.ok p_rounds) (.ok []))) (b2iM (.ok p_lost))) fun (p_due : (List (Option Int))) =>
  (Res.bind (Res.bind (.ok p_bad) .ok) fun (p_passed : (List Int)) =>
  (Res.bind (Res.bind (pairM (.ok p_table) (pairM (.ok p_drivers) (.ok p_passed))) fun a => m_play_game (a.1) (a.2.1) (a.2.2)) fun (p_told : Str × List (Option Int)) =>
  (Res.ite (orM (neM (.ok p_passed) (.ok p_bad)) (notM (Res.bind (pairM (.ok p_told) (pairM (.ok p_kind) (.ok p_due))) fun a => m_law_same_told (a.1) (a.2.1) (a.2.2))))
  (.ok false)
  (appM p_told.2 (someM (.ok (0 : Int))) fun _ =>
  (Res.ite (notM (Res.bind (pairM (Res.bind (pairM (.ok p_table) (pairM (.ok p_drivers) (Res.bind (.ok p_bad) .ok))) fun a => m_play_game (a.1) (a.2.1) (a.2.2)) (pairM (.ok p_kind) (.ok p_due))) fun a => m_law_same_told (a.1) (a.2.1) (a.2.2)))
  (.ok false)
  (Res.ite (orM (andM (notM (.ok p_lost)) (notM (Res.bind (pairM (.ok p_table) (pairM (.ok p_drivers) (pairM (.ok p_bad) (.ok p_moves)))) fun a => m_law_safe (a.1) (a.2.1) (a.2.2.1) (a.2.2.2)))) (andM (.ok p_lost) (notM (Res.bind (pairM (.ok p_table) (pairM (.ok p_drivers) (pairM (.ok p_bad) (.ok p_rounds)))) fun a => m_law_lost (a.1) (a.2.1) (a.2.2.1) (a.2.2.2)))))
  (.ok false)
  (Res.bind (Res.bind (pairM (Res.bind (pairM (.ok p_script) (.ok (14 : Int))) fun a => m_law_far (a.1) (a.2)) (repM (consM (.ok (7 : Int)) (consM (.ok (12 : Int)) (consM (.ok (9 : Int)) (consM (.ok (7 : Int)) (consM (.ok (12 : Int)) (consM (.ok (4 : Int)) (.ok []))))))) (.ok (3 : Int)))) fun a => m_law_parts (a.1) (a.2)) fun (p_parts : (List Int)) =>
  (Res.bind (Res.bind (rng1M (.ok (3 : Int))) fun xs => forB (m_law_b44 p_drivers p_table p_bad p_rounds p_moves p_lost p_parts) xs ()) (Lp.el (fun (s_ : Unit) => match s_ with
 | () =>
  (Res.bind (idxM (consM (subM (negM (.ok (1 : Int))) (idxM (.ok p_head) (.ok (12 : Int)))) (consM (addM (addM (.ok p_inputs) (.ok (1 : Int))) (idxM (.ok p_head) (.ok (12 : Int)))) (.ok []))) (modM (Res.bind (idxM (.ok p_head) (.ok (12 : Int))) .ok) (.ok (2 : Int)))) fun (p_wrong : Int) =>
  (Res.bind (Res.bind (rng1M (.ok (4 : Int))) fun xs => forB (m_law_b43 p_table p_bad p_wrong) xs ()) (Lp.el (fun (s_ : Unit) => match s_ with
 | () =>
  (.ok true)) (fun r => .ok r))))) (fun r => .ok r)))))))))))))))
def m_law_j7 (p_script : (List Int)) (p_head : (List Int)) (p_inputs : Int) (p_drivers : Int) (s_ : (Int × Int × (List (List (Int × Int))))) : Res Bool :=
  match s_ with
 | p_table =>
  (Res.bind (sliceM (lcB (fun (x8 : Int) => .ok true) (fun (x8 : Int) => (modM (Res.bind (.ok x8) .ok) (shlM (.ok (1 : Int)) (Res.bind (.ok p_table) fun a => .ok a.2.1)))) (sliceM (.ok p_head) (someM (.ok (7 : Int))) (someM (.ok (11 : Int))))) (.ok none) (someM (idxM (.ok p_head) (.ok (6 : Int))))) fun (p_bad : (List Int)) =>
  (Res.ite (eqM (idxM (.ok p_head) (.ok (11 : Int))) (.ok (0 : Int)))
  (Res.bind (catM (catM (.ok p_bad) (sliceM (.ok p_bad) (.ok none) (someM (.ok (1 : Int))))) (consM (.ok (64 : Int)) (.ok []))) fun (p_bad : (List Int)) =>
  (m_law_j11 p_script p_head p_inputs p_drivers p_table p_bad))
  (m_law_j11 p_script p_head p_inputs p_drivers p_table p_bad)))
def m_law (p_script : (List Int)) : Res Bool :=
  (Res.bind (Res.bind (pairM (Res.bind (pairM (.ok p_script) (.ok (0 : Int))) fun a => m_law_far (a.1) (a.2)) (consM (.ok (5 : Int)) (consM (.ok (4 : Int)) (consM (.ok (6 : Int)) (consM (.ok (10 : Int)) (consM (.ok (12 : Int)) (consM (.ok (3 : Int)) (consM (.ok (5 : Int)) (consM (.ok (64 : Int)) (consM (.ok (64 : Int)) (consM (.ok (64 : Int)) (consM (.ok (64 : Int)) (consM (.ok (4 : Int)) (consM (.ok (9 : Int)) (.ok []))))))))))))))) fun a => m_law_parts (a.1) (a.2)) fun (p_head : (List Int)) =>
  (Res.bind (idxM (consM (.ok (0 : Int)) (consM (.ok (1 : Int)) (consM (.ok (2 : Int)) (consM (.ok (2 : Int)) (consM (.ok (3 : Int)) (.ok [])))))) (idxM (.ok p_head) (.ok (0 : Int)))) fun (p_inputs : Int) =>
  (Res.bind (modM (Res.bind (idxM (.ok p_head) (.ok (1 : Int))) .ok) (addM (.ok p_inputs) (.ok (1 : Int)))) fun (p_drivers : Int) =>
  (Res.bind (addM (.ok (1 : Int)) (modM (Res.bind (idxM (.ok p_head) (.ok (4 : Int))) .ok) (idxM (consM (.ok (6 : Int)) (consM (.ok (12 : Int)) (.ok []))) (b2iM (eqM (idxM (.ok p_head) (.ok (3 : Int))) (.ok (0 : Int))))))) fun (p_states : Int) =>
  (Res.bind (Res.bind (pairM (.ok p_script) (pairM (.ok (1 : Int)) (pairM (.ok p_inputs) (pairM (addM (.ok (1 : Int)) (idxM (.ok p_head) (.ok (2 : Int)))) (.ok p_states))))) fun a => m_law_drawn (a.1) (a.2.1) (a.2.2.1) (a.2.2.2.1) (a.2.2.2.2)) fun (p_table : (Int × Int × (List (List (Int × Int))))) =>
  (Res.ite (eqM (idxM (.ok p_head) (.ok (5 : Int))) (.ok (0 : Int)))
  (Res.bind (Res.bind (pairM (.ok p_table) (pairM (.ok p_drivers) (Res.bind (pairM (.ok p_script) (.ok (13 : Int))) fun a => m_law_far (a.1) (a.2)))) fun a => m_law_chained (a.1) (a.2.1) (a.2.2)) fun (p_table : (Int × Int × (List (List (Int × Int))))) =>
  (m_law_j7 p_script p_head p_inputs p_drivers p_table))
  (m_law_j7 p_script p_head p_inputs p_drivers p_table)))))))
end G94

namespace G94
open PySem PySem.Spec L2 Mw
def top (i : Nat) : Stmt := PySem.Challenge.pw_pinsalone_k94_games.main.body.getD i (.Pass ⟨0, 0, 0, 0⟩)
abbrev s_state_count : Stmt := top 6
abbrev N_state_count : List Str := ["table"]
theorem sc_state_count : FnScope N_state_count ["table"] (defScope s_state_count) := ⟨rfl, rfl, rfl, by decide +kernel, rfl, by decide +kernel, by decide +kernel⟩
abbrev s_check_driver : Stmt := top 8
abbrev N_check_driver : List Str := ["table", "driver_count"]
theorem sc_check_driver : FnScope N_check_driver ["table", "driver_count"] (defScope s_check_driver) := ⟨rfl, rfl, rfl, by decide +kernel, rfl, by decide +kernel, by decide +kernel⟩
abbrev s_outcomes : Stmt := top 9
abbrev N_outcomes : List Str := ["table", "driver_count", "state", "move", "row", "other"]
theorem sc_outcomes : FnScope N_outcomes ["table", "driver_count", "state", "move"] (defScope s_outcomes) := ⟨rfl, rfl, rfl, by decide +kernel, rfl, by decide +kernel, by decide +kernel⟩
abbrev s_holds : Stmt := top 10
abbrev N_holds : List Str := ["pairs", "bad", "rounds", "target", "answer"]
theorem sc_holds : FnScope N_holds ["pairs", "bad", "rounds"] (defScope s_holds) := ⟨rfl, rfl, rfl, by decide +kernel, rfl, by decide +kernel, by decide +kernel⟩
abbrev s_good_moves : Stmt := top 11
abbrev N_good_moves : List Str := ["table", "driver_count", "bad", "rounds", "state", "moves", "move"]
theorem sc_good_moves : FnScope N_good_moves ["table", "driver_count", "bad", "rounds", "state"] (defScope s_good_moves) := ⟨rfl, rfl, rfl, by decide +kernel, rfl, by decide +kernel, by decide +kernel⟩
abbrev s_lost_rounds : Stmt := top 12
abbrev N_lost_rounds : List Str := ["table", "driver_count", "bad", "rounds", "number", "changed", "state", "left", "fallen", "_"]
theorem sc_lost_rounds : FnScope N_lost_rounds ["table", "driver_count", "bad"] (defScope s_lost_rounds) := ⟨rfl, rfl, rfl, by decide +kernel, rfl, by decide +kernel, by decide +kernel⟩
abbrev s_play_game : Stmt := top 13
abbrev N_play_game : List Str := ["table", "driver_count", "bad", "rounds", "moves", "state", "number"]
theorem sc_play_game : FnScope N_play_game ["table", "driver_count", "bad"] (defScope s_play_game) := ⟨rfl, rfl, rfl, by decide +kernel, rfl, by decide +kernel, by decide +kernel⟩
abbrev s_is_move : Stmt := top 14
abbrev N_is_move : List Str := ["driver_count", "move"]
theorem sc_is_move : FnScope N_is_move ["driver_count", "move"] (defScope s_is_move) := ⟨rfl, rfl, rfl, by decide +kernel, rfl, by decide +kernel, by decide +kernel⟩
abbrev s_shows_safe : Stmt := top 15
abbrev N_shows_safe : List Str := ["table", "driver_count", "bad", "moves", "state", "move", "target", "answer"]
theorem sc_shows_safe : FnScope N_shows_safe ["table", "driver_count", "bad", "moves"] (defScope s_shows_safe) := ⟨rfl, rfl, rfl, by decide +kernel, rfl, by decide +kernel, by decide +kernel⟩
abbrev s_is_spoilt : Stmt := top 16
abbrev N_is_spoilt : List Str := ["pairs", "bad", "rounds", "number", "target", "answer"]
theorem sc_is_spoilt : FnScope N_is_spoilt ["pairs", "bad", "rounds", "number"] (defScope s_is_spoilt) := ⟨rfl, rfl, rfl, by decide +kernel, rfl, by decide +kernel, by decide +kernel⟩
abbrev s_shows_lost : Stmt := top 17
abbrev N_shows_lost : List Str := ["table", "driver_count", "bad", "rounds", "state", "number", "move"]
theorem sc_shows_lost : FnScope N_shows_lost ["table", "driver_count", "bad", "rounds"] (defScope s_shows_lost) := ⟨rfl, rfl, rfl, by decide +kernel, rfl, by decide +kernel, by decide +kernel⟩
abbrev s_check_moves : Stmt := top 19
abbrev N_check_moves : List Str := ["table", "driver_count", "moves", "move", "state", "target", "_"]
theorem sc_check_moves : FnScope N_check_moves ["table", "driver_count", "moves"] (defScope s_check_moves) := ⟨rfl, rfl, rfl, by decide +kernel, rfl, by decide +kernel, by decide +kernel⟩
abbrev s_driven_table : Stmt := top 20
abbrev N_driven_table : List Str := ["table", "driver_count", "moves", "places", "state", "move", "rows", "pairs", "target", "answer"]
theorem sc_driven_table : FnScope N_driven_table ["table", "driver_count", "moves"] (defScope s_driven_table) := ⟨rfl, rfl, rfl, by decide +kernel, rfl, by decide +kernel, by decide +kernel⟩
abbrev s_law_far : Stmt := top 22
abbrev N_law_far : List Str := ["script", "k"]
theorem sc_law_far : FnScope N_law_far ["script", "k"] (defScope s_law_far) := ⟨rfl, rfl, rfl, by decide +kernel, rfl, by decide +kernel, by decide +kernel⟩
abbrev s_law_parts : Stmt := top 23
abbrev N_law_parts : List Str := ["cell", "sizes", "parts", "rest", "k", "mixed"]
theorem sc_law_parts : FnScope N_law_parts ["cell", "sizes"] (defScope s_law_parts) := ⟨rfl, rfl, rfl, by decide +kernel, rfl, by decide +kernel, by decide +kernel⟩
abbrev s_law_is_integer : Stmt := top 24
abbrev N_law_is_integer : List Str := ["actual"]
theorem sc_law_is_integer : FnScope N_law_is_integer ["actual"] (defScope s_law_is_integer) := ⟨rfl, rfl, rfl, by decide +kernel, rfl, by decide +kernel, by decide +kernel⟩
abbrev s_law_drawn : Stmt := top 25
abbrev N_law_drawn : List Str := ["script", "at", "inputs", "outputs", "states", "rows", "k", "parts", "row", "i"]
theorem sc_law_drawn : FnScope N_law_drawn ["script", "at", "inputs", "outputs", "states"] (defScope s_law_drawn) := ⟨rfl, rfl, rfl, by decide +kernel, rfl, by decide +kernel, by decide +kernel⟩
abbrev s_law_same_table : Stmt := top 26
abbrev N_law_same_table : List Str := ["actual", "expected", "row", "pair"]
theorem sc_law_same_table : FnScope N_law_same_table ["actual", "expected"] (defScope s_law_same_table) := ⟨rfl, rfl, rfl, by decide +kernel, rfl, by decide +kernel, by decide +kernel⟩
abbrev s_law_chained : Stmt := top 27
abbrev N_law_chained : List Str := ["table", "drivers", "cell", "rows", "state", "row", "parts", "move", "other"]
theorem sc_law_chained : FnScope N_law_chained ["table", "drivers", "cell"] (defScope s_law_chained) := ⟨rfl, rfl, rfl, by decide +kernel, rfl, by decide +kernel, by decide +kernel⟩
abbrev s_law_outcomes : Stmt := top 28
abbrev N_law_outcomes : List Str := ["table", "drivers", "state", "move", "other"]
theorem sc_law_outcomes : FnScope N_law_outcomes ["table", "drivers", "state", "move"] (defScope s_law_outcomes) := ⟨rfl, rfl, rfl, by decide +kernel, rfl, by decide +kernel, by decide +kernel⟩
abbrev s_law_rounds : Stmt := top 29
abbrev N_law_rounds : List Str := ["table", "drivers", "bad", "rounds", "forced", "turn", "following", "state", "good", "move", "pairs", "row", "pair"]
theorem sc_law_rounds : FnScope N_law_rounds ["table", "drivers", "bad"] (defScope s_law_rounds) := ⟨rfl, rfl, rfl, by decide +kernel, rfl, by decide +kernel, by decide +kernel⟩
abbrev s_law_moves : Stmt := top 30
abbrev N_law_moves : List Str := ["table", "drivers", "bad", "rounds", "moves", "state", "good", "move", "pairs", "pair"]
theorem sc_law_moves : FnScope N_law_moves ["table", "drivers", "bad", "rounds"] (defScope s_law_moves) := ⟨rfl, rfl, rfl, by decide +kernel, rfl, by decide +kernel, by decide +kernel⟩
abbrev s_law_usable : Stmt := top 31
abbrev N_law_usable : List Str := ["table", "drivers", "moves", "state", "target", "answer"]
theorem sc_law_usable : FnScope N_law_usable ["table", "drivers", "moves"] (defScope s_law_usable) := ⟨rfl, rfl, rfl, by decide +kernel, rfl, by decide +kernel, by decide +kernel⟩
abbrev s_law_safe : Stmt := top 32
abbrev N_law_safe : List Str := ["table", "drivers", "bad", "moves", "state", "pairs", "pair"]
theorem sc_law_safe : FnScope N_law_safe ["table", "drivers", "bad", "moves"] (defScope s_law_safe) := ⟨rfl, rfl, rfl, by decide +kernel, rfl, by decide +kernel, by decide +kernel⟩
abbrev s_law_lost : Stmt := top 33
abbrev N_law_lost : List Str := ["table", "drivers", "bad", "rounds", "state", "move", "wins", "target", "answer"]
theorem sc_law_lost : FnScope N_law_lost ["table", "drivers", "bad", "rounds"] (defScope s_law_lost) := ⟨rfl, rfl, rfl, by decide +kernel, rfl, by decide +kernel, by decide +kernel⟩
abbrev s_law_driven : Stmt := top 34
abbrev N_law_driven : List Str := ["table", "drivers", "moves", "state", "left", "rows", "pairs", "pair"]
theorem sc_law_driven : FnScope N_law_driven ["table", "drivers", "moves"] (defScope s_law_driven) := ⟨rfl, rfl, rfl, by decide +kernel, rfl, by decide +kernel, by decide +kernel⟩
abbrev s_law_changed : Stmt := top 35
abbrev N_law_changed : List Str := ["numbers", "which", "place", "one", "told", "at"]
theorem sc_law_changed : FnScope N_law_changed ["numbers", "which", "place", "one"] (defScope s_law_changed) := ⟨rfl, rfl, rfl, by decide +kernel, rfl, by decide +kernel, by decide +kernel⟩
abbrev s_law_error : Stmt := top 36
abbrev N_law_error : List Str := ["which", "table", "drivers", "bad", "items", "e"]
theorem sc_law_error : FnScope N_law_error ["which", "table", "drivers", "bad", "items"] (defScope s_law_error) := ⟨rfl, rfl, rfl, by decide +kernel, rfl, by decide +kernel, by decide +kernel⟩
abbrev s_law_same_told : Stmt := top 37
abbrev N_law_same_told : List Str := ["actual", "kind", "expected", "k"]
theorem sc_law_same_told : FnScope N_law_same_told ["actual", "kind", "expected"] (defScope s_law_same_told) := ⟨rfl, rfl, rfl, by decide +kernel, rfl, by decide +kernel, by decide +kernel⟩
abbrev s_law_right_moves : Stmt := top 38
abbrev N_law_right_moves : List Str := ["table", "drivers", "bad", "moves", "lost", "passed", "actual"]
theorem sc_law_right_moves : FnScope N_law_right_moves ["table", "drivers", "bad", "moves", "lost"] (defScope s_law_right_moves) := ⟨rfl, rfl, rfl, by decide +kernel, rfl, by decide +kernel, by decide +kernel⟩
abbrev s_law_right_rounds : Stmt := top 39
abbrev N_law_right_rounds : List Str := ["table", "drivers", "bad", "rounds", "lost", "passed", "actual"]
theorem sc_law_right_rounds : FnScope N_law_right_rounds ["table", "drivers", "bad", "rounds", "lost"] (defScope s_law_right_rounds) := ⟨rfl, rfl, rfl, by decide +kernel, rfl, by decide +kernel, by decide +kernel⟩
abbrev s_law : Stmt := top 40
abbrev N_law : List Str := ["script", "head", "inputs", "drivers", "states", "table", "bad", "rounds", "moves", "lost", "kind", "due", "passed", "told", "parts", "k", "at", "items", "wrong", "which", "number", "item", "row"]
theorem sc_law : FnScope N_law ["script"] (defScope s_law) := ⟨rfl, rfl, rfl, by decide +kernel, rfl, by decide +kernel, by decide +kernel⟩
structure Txt (K : PySem.W.Frag) (mg : Str → Option Value) (cl : Nat → Addr) : Prop where
  n_all : mg "all" = none
  n_any : mg "any" = none
  n_bool : mg "bool" = none
  n_enumerate : mg "enumerate" = none
  n_int : mg "int" = none
  n_isinstance : mg "isinstance" = none
  n_len : mg "len" = none
  n_list : mg "list" = none
  n_range : mg "range" = none
  n_str : mg "str" = none
  n_tuple : mg "tuple" = none
  c_ROWS : ∃ t, mg "ROWS" = some (.int (2) t)
  ec_0 : ExcC K (cl 0)
  ex_0 : PySem.W.exmOne K (.ref (cl 0)) (.ref (cl 2)) = some true
  kit_0_0 : PySem.W.kitOne K (.ref (cl 0)) (.ref (cl 0)) = some true
  kit_0_1 : PySem.W.kitOne K (.ref (cl 0)) (.ref (cl 1)) = some false
  ec_1 : ExcC K (cl 1)
  ex_1 : PySem.W.exmOne K (.ref (cl 1)) (.ref (cl 2)) = some true
  kit_1_0 : PySem.W.kitOne K (.ref (cl 1)) (.ref (cl 0)) = some false
  kit_1_1 : PySem.W.kitOne K (.ref (cl 1)) (.ref (cl 1)) = some true
  g_0 : mg "NoSuchThing" = some (.ref (cl 0))
  x_0 : PySem.W.excIn K (cl 0) [.type "ValueError", .type "Exception", .type "BaseException", .type "object"] "ValueError.__new__" = true
  k_0 : PySem.W.keepIn K (.ref (cl 0)) = true
  b_0 : PySem.W.subIn K (.ref (cl 0)) (.type "BaseException") = some true
  t_0 : PySem.W.typeIn K (.ref (cl 0)) = some (.type "type")
  g_1 : mg "InvalidValues" = some (.ref (cl 1))
  x_1 : PySem.W.excIn K (cl 1) [.type "ValueError", .type "Exception", .type "BaseException", .type "object"] "ValueError.__new__" = true
  k_1 : PySem.W.keepIn K (.ref (cl 1)) = true
  b_1 : PySem.W.subIn K (.ref (cl 1)) (.type "BaseException") = some true
  t_1 : PySem.W.typeIn K (.ref (cl 1)) = some (.type "type")
  g_2 : mg "GatesError" = some (.ref (cl 2))
theorem Txt.ec {K : PySem.W.Frag} {mg : Str → Option Value} {cl : Nat → Addr} (T : Txt K mg cl) : ∀ k, k < 2 → ExcC K (cl k)
  | 0, _ => T.ec_0
  | 1, _ => T.ec_1
  | k + 2, h => absurd h (by omega)
theorem Txt.ex {K : PySem.W.Frag} {mg : Str → Option Value} {cl : Nat → Addr} (T : Txt K mg cl) : ∀ k, k < 2 → PySem.W.exmOne K (.ref (cl k)) (.ref (cl 2)) = some true
  | 0, _ => T.ex_0
  | 1, _ => T.ex_1
  | k + 2, h => absurd h (by omega)
theorem Txt.kit {K : PySem.W.Frag} {mg : Str → Option Value} {cl : Nat → Addr} (T : Txt K mg cl) : ∀ k j, k < 2 → j < 2 → PySem.W.kitOne K (.ref (cl k)) (.ref (cl j)) = some (decide (k = j))
  | 0, 0, _, _ => T.kit_0_0
  | 0, 1, _, _ => T.kit_0_1
  | 1, 0, _, _ => T.kit_1_0
  | 1, 1, _, _ => T.kit_1_1
  | k + 2, _, h, _ => absurd h (by omega)
  | 0, j + 2, _, h => absurd h (by omega)
  | 1, j + 2, _, h => absurd h (by omega)
end G94

namespace G94
open PySem L2 Mw
abbrev Tb := Int × Int × List (List (Int × Int))
abbrev Ro := List (Option Int)
/-- a table with I input bits, d of them driven, and S states -/
structure WF (T : Tb) (I d S O : Nat) : Prop where
  hI : T.1 = (I : Int)
  hO : T.2.1 = (O : Int)
  i3 : I ≤ 3
  o6 : O ≤ 6
  dI : d ≤ I
  hS : T.2.2.length = S
  s1 : 0 < S
  s12 : S ≤ 12
  row : ∀ r ∈ T.2.2, r.length = 2 ^ I ∧ ∀ p ∈ r, (0 : Int) ≤ p.1 ∧ p.1 < (S : Int)
def outs (T : Tb) (I d : Nat) (s m : Int) : List (Int × Int) := (rgL 0 (2 ^ (I - d))).map fun o => gx (gx T.2.2 s) (m + o * ((2 ^ d : Nat) : Int))
section
variable {T : Tb} {I d S O : Nat} {bad : List Int} (Z : WF T I d S O)
include Z
theorem WF.two {k : Nat} (h : k ≤ I) : 2 ^ k ≤ 8 := Nat.le_trans (Nat.pow_le_pow_right (by decide) (Nat.le_trans h Z.i3)) (by decide)
theorem WF.pow : 2 ^ (I - d) * 2 ^ d = 2 ^ I := by rw [← Nat.pow_add, Nat.sub_add_cancel Z.dI]
theorem WF.at_lt {m o : Int} (hm : 0 ≤ m ∧ m < ((2 ^ d : Nat) : Int)) (ho : 0 ≤ o ∧ o < ((2 ^ (I - d) : Nat) : Int)) : 0 ≤ m + o * ((2 ^ d : Nat) : Int) ∧ m + o * ((2 ^ d : Nat) : Int) < ((2 ^ I : Nat) : Int) := by
  have hp := Z.pow
  obtain ⟨n, rfl⟩ := Int.eq_ofNat_of_zero_le ho.1
  obtain ⟨k, rfl⟩ := Int.eq_ofNat_of_zero_le hm.1
  have hn : n < 2 ^ (I - d) := by omega
  have hk : k < 2 ^ d := by omega
  have h1 : (n + 1) * 2 ^ d ≤ 2 ^ (I - d) * 2 ^ d := Nat.mul_le_mul_right _ hn
  rw [hp, Nat.add_mul, Nat.one_mul] at h1
  have e : ((k : Int) + (n : Int) * ((2 ^ d : Nat) : Int)) = ((k + n * 2 ^ d : Nat) : Int) := by simp
  rw [e]
  constructor
  · omega
  · omega
theorem WF.rowL {s : Int} (hs : 0 ≤ s ∧ s < S) : (gx T.2.2 s).length = 2 ^ I ∧ ∀ p ∈ gx T.2.2 s, (0 : Int) ≤ p.1 ∧ p.1 < (S : Int) :=
  Z.row _ (gx_mem hs.1 (by rw [Z.hS]; exact hs.2))
theorem WF.outs_t {s m : Int} (hs : 0 ≤ s ∧ s < S) (hm : 0 ≤ m ∧ m < ((2 ^ d : Nat) : Int)) : ∀ p ∈ outs T I d s m, (0 : Int) ≤ p.1 ∧ p.1 < (S : Int) := by
  intro p hp
  obtain ⟨o, ho, rfl⟩ := List.mem_map.mp hp
  have ho := mem_rgL.mp ho
  obtain ⟨hl, hr⟩ := Z.rowL hs
  have := Z.at_lt hm ⟨ho.1, by omega⟩
  exact hr _ (gx_mem this.1 (by rw [hl]; exact this.2))
theorem WF.outs_len {s m : Int} : (outs T I d s m).length ≤ 8 := by
  unfold outs
  rw [List.length_map, rgL_length]
  exact Z.two (by omega)
theorem WF.sub : subM (Res.bind (.ok T) fun a => .ok a.1) (.ok (d : Int)) = .ok ((I - d : Nat) : Int) := by
  rw [Res.bind_ok, Z.hI, subM_ok]
  have := Z.dI
  congr 1
  omega
theorem WF.rg : rng1M (shlM (.ok (1 : Int)) (subM (Res.bind (.ok T) fun a => .ok a.1) (.ok (d : Int)))) = .ok (rgL 0 (2 ^ (I - d))) := by
  have i3 := Z.i3
  rw [Z.sub, shl1_ok (by omega), rng1_ok]
  have := Z.two (k := I - d) (by omega)
  omega
theorem WF.rgd : rng1M (shlM (.ok (1 : Int)) (.ok (d : Int))) = .ok (rgL 0 (2 ^ d)) := by
  have := Z.two (k := d) Z.dI
  have := Z.i3
  have := Z.dI
  rw [shl1_ok (by omega), rng1_ok (by omega)]
theorem WF.outcomes {s m : Int} (hs : 0 ≤ s ∧ s < S) (hm : 0 ≤ m ∧ m < ((2 ^ d : Nat) : Int)) : m_outcomes T d s m = .ok (outs T I d s m) := by
  obtain ⟨hl, hr⟩ := Z.rowL hs
  have i3 := Z.i3
  have dI := Z.dI
  have h8 := Z.two (k := I - d) (by omega)
  unfold m_outcomes
  rw [Res.bind_ok, idxM_gx hs.1 (by rw [Z.hS]; exact hs.2), Res.bind_ok, Z.rg, lcB_map (fun o => gx (gx T.2.2 s) (m + o * ((2 ^ d : Nat) : Int))) (by rw [rgL_length]; omega)]
  · rfl
  · intro o ho
    have ho := mem_rgL.mp ho
    have := Z.at_lt hm ⟨ho.1, by omega⟩
    rw [shl_ok (by omega) (by omega), addM_ok, idxM_gx this.1 (by rw [hl]; exact this.2)]
theorem WF.louts {s m : Int} (hs : 0 ≤ s ∧ s < S) (hm : 0 ≤ m ∧ m < ((2 ^ d : Nat) : Int)) : m_law_outcomes T d s m = .ok (outs T I d s m) := by
  obtain ⟨hl, hr⟩ := Z.rowL hs
  have i3 := Z.i3
  have dI := Z.dI
  have h8 := Z.two (k := I - d) (by omega)
  unfold m_law_outcomes
  rw [Z.rg, lcB_map (fun o => gx (gx T.2.2 s) (m + o * ((2 ^ d : Nat) : Int))) (by rw [rgL_length]; omega)]
  · rfl
  · intro o ho
    have ho := mem_rgL.mp ho
    have := Z.at_lt hm ⟨ho.1, by omega⟩
    rw [Res.bind_ok, idxM_gx hs.1 (by rw [Z.hS]; exact hs.2), shl1_ok (by omega), mul_ok (by omega), addM_ok, idxM_gx this.1 (by rw [hl]; exact this.2)]
/-- a move that neither answers badly nor leads out of the open states -/
def goodB (T : Tb) (I d : Nat) (bad : List Int) (R : Int → Bool) (s m : Int) : Bool := (outs T I d s m).all fun p => !decide (p.2 ∈ bad) && !R p.1
omit Z in
/-- the moves that are good -/
def goods (T : Tb) (I d : Nat) (bad : List Int) (R : Int → Bool) (s : Int) : List Int := (rgL 0 (2 ^ d)).filter (goodB T I d bad R s)
omit Z in
def isS (R : Ro) (s : Int) : Bool := (gx R s).isSome
theorem WF.good {R : Ro} (hR : R.length = S) {s : Int} (hs : 0 ≤ s ∧ s < S) : m_good_moves T d bad R s = .ok (goods T I d bad (isS R) s) := by
  have i3 := Z.i3
  have dI := Z.dI
  have h8 := Z.two (k := d) dI
  have hrg : rngOM (.ok ((0 : Int), ((2 ^ d : Nat) : Int))) = .ok (rgL 0 (2 ^ d)) := by
    have e := Z.rgd
    rw [shl1_ok (by omega)] at e
    unfold rng1M at e
    rw [Res.bind_ok] at e
    unfold rngOM
    rw [Res.bind_ok]
    have h0 : inR 0 = true := by decide
    have h1 : inR ((2 ^ d : Nat) : Int) = true := by
      cases h : inR ((2 ^ d : Nat) : Int) with
      | true => rfl
      | false => rw [h] at e; simp at e
    rw [h0, h1, Bool.and_self, if_pos rfl, Int.sub_zero, Int.toNat_natCast]
  unfold m_good_moves
  rw [shl1_ok (by omega), Res.bind_ok, Res.bind_ok, hrg, lcB_filter (goodB T I d bad (isS R) s) (by rw [rgL_length]; omega)]
  · rfl
  · intro m hm
    have hm := mem_rgL.mp hm
    simp only [pairM_ok, Res.bind_ok]
    rw [Z.outcomes hs ⟨hm.1, by omega⟩]
    simp only [pairM_ok, Res.bind_ok]
    unfold m_holds
    rw [lcB_map (fun p : Int × Int => !decide (p.2 ∈ bad) && !isS R p.1) (Nat.lt_of_le_of_lt Z.outs_len (by decide)), allM_ok, List.all_map]
    · rfl
    · intro p hp
      have ht := Z.outs_t hs ⟨hm.1, by omega⟩ p hp
      rw [ninM_ok, andM_ok, idxM_gx ht.1 (by rw [hR]; exact ht.2), isNM_ok]
      unfold isS
      cases decide (p.2 ∈ bad) <;> simp
end
end G94

namespace G94
open PySem L2 Mw
theorem len_filter2 {α : Type} (p : α → Bool) : ∀ l : List α, l.length = (l.filter p).length + (l.filter fun x => !p x).length
  | [] => rfl
  | x :: l => by
    have := len_filter2 p l
    cases h : p x <;> simp [h] <;> omega
/-- no good move -/
def nog (T : Tb) (I d : Nat) (bad : List Int) (R : Int → Bool) (s : Int) : Bool := (goods T I d bad R s).isEmpty
def left (S : Nat) (R : Ro) : List Int := (rgL 0 S).filter fun s => !isS R s
def fallen (T : Tb) (I d S : Nat) (bad : List Int) (R : Ro) : List Int := (left S R).filter (nog T I d bad (isS R))
def stp (T : Tb) (I d S : Nat) (bad : List Int) (n : Int) (R : Ro) : Ro := (rgL 0 S).map fun s => if !isS R s && nog T I d bad (isS R) s then some n else gx R s
def Rn (T : Tb) (I d S : Nat) (bad : List Int) : Nat → Ro
  | 0 => List.replicate S none
  | k + 1 => stp T I d S bad ((k + 1 : Nat) : Int) (Rn T I d S bad k)
section
variable {T : Tb} {I d S O : Nat} {bad : List Int} (Z : WF T I d S O)
theorem stp_len {n : Int} {R : Ro} : (stp T I d S bad n R).length = S := by simp [stp, rgL_length]
theorem Rn_len : ∀ k, (Rn T I d S bad k).length = S
  | 0 => by simp [Rn]
  | k + 1 => stp_len
theorem stp_gx {n : Int} {R : Ro} {s : Int} (hs : 0 ≤ s ∧ s < S) : gx (stp T I d S bad n R) s = if !isS R s && nog T I d bad (isS R) s then some n else gx R s := by
  unfold stp
  rw [gx_map hs.1 (by rw [rgL_length]; exact hs.2), gx_rgL hs.1 hs.2, Int.zero_add]
theorem stp_isS {n : Int} {R : Ro} {s : Int} (hs : 0 ≤ s ∧ s < S) : isS (stp T I d S bad n R) s = (isS R s || nog T I d bad (isS R) s) := by
  unfold isS
  rw [stp_gx hs]
  unfold isS
  cases h : (gx R s).isSome <;> cases h2 : nog T I d bad (fun j => (gx R j).isSome) s <;> simp_all [isS]
theorem mem_fallen {R : Ro} {s : Int} : s ∈ fallen T I d S bad R ↔ (0 ≤ s ∧ s < S) ∧ isS R s = false ∧ nog T I d bad (isS R) s = true := by
  unfold fallen left
  rw [List.mem_filter, List.mem_filter, mem_rgL]
  simp
  constructor
  · rintro ⟨⟨⟨a, b⟩, c⟩, e⟩; exact ⟨⟨a, b⟩, c, e⟩
  · rintro ⟨⟨a, b⟩, c, e⟩; exact ⟨⟨⟨a, b⟩, c⟩, e⟩
theorem left_stp {n : Int} {R : Ro} : (left S (stp T I d S bad n R)).length + (fallen T I d S bad R).length = (left S R).length := by
  have e : left S (stp T I d S bad n R) = (left S R).filter fun s => !nog T I d bad (isS R) s := by
    unfold left
    rw [List.filter_filter]
    apply List.filter_congr
    intro s hs
    have hs := mem_rgL.mp hs
    rw [stp_isS ⟨hs.1, by omega⟩]
    cases isS R s <;> cases nog T I d bad (isS R) s <;> rfl
  rw [e]
  have := len_filter2 (nog T I d bad (isS R)) (left S R)
  unfold fallen
  omega
theorem stp_same {n : Int} {R : Ro} (hR : R.length = S) (h : fallen T I d S bad R = []) : stp T I d S bad n R = R := by
  apply gx_ext (by rw [stp_len, hR])
  intro i hi
  rw [stp_len] at hi
  have hs : (0 : Int) ≤ (i : Int) ∧ (i : Int) < S := ⟨by omega, by omega⟩
  rw [stp_gx hs]
  rw [if_neg]
  intro h2
  rw [Bool.and_eq_true, Bool.not_eq_true'] at h2
  have : (i : Int) ∈ fallen T I d S bad R := mem_fallen.mpr ⟨hs, h2.1, h2.2⟩
  rw [h] at this
  cases this
theorem Rn_stable {k : Nat} (h : fallen T I d S bad (Rn T I d S bad k) = []) : ∀ j, k ≤ j → Rn T I d S bad j = Rn T I d S bad k
  | j, hj => by
    induction j with
    | zero => have : k = 0 := by omega
              rw [this]
    | succ j ih =>
      by_cases e : k = j + 1
      · rw [e]
      · have := ih (by omega)
        show stp T I d S bad _ (Rn T I d S bad j) = _
        rw [this]
        exact stp_same (Rn_len k) h
include Z
theorem WF.goodB_mono {R R' : Int → Bool} (h : ∀ s : Int, 0 ≤ s ∧ s < S → R s = true → R' s = true) {s m : Int} (hs : 0 ≤ s ∧ s < S) (hm : 0 ≤ m ∧ m < ((2 ^ d : Nat) : Int)) (g : goodB T I d bad R' s m = true) : goodB T I d bad R s m = true := by
  unfold goodB at *
  rw [List.all_eq_true] at *
  intro p hp
  have := g p hp
  have ht := Z.outs_t hs hm p hp
  rw [Bool.and_eq_true, Bool.not_eq_true', Bool.not_eq_true'] at this ⊢
  refine ⟨this.1, ?_⟩
  cases e : R p.1 with
  | false => rfl
  | true => rw [h _ ht e] at this; exact this.2
omit Z in
theorem nog_iff {R : Int → Bool} {s : Int} : nog T I d bad R s = true ↔ ∀ m : Int, 0 ≤ m ∧ m < ((2 ^ d : Nat) : Int) → goodB T I d bad R s m = false := by
  unfold nog goods
  rw [List.isEmpty_iff, List.filter_eq_nil_iff]
  constructor
  · intro h m hm
    have := h m (mem_rgL.mpr ⟨hm.1, by omega⟩)
    simpa using this
  · intro h m hm
    have hm := mem_rgL.mp hm
    rw [h m ⟨hm.1, by omega⟩]; simp
theorem WF.nog_mono {R R' : Int → Bool} (h : ∀ s : Int, 0 ≤ s ∧ s < S → R s = true → R' s = true) {s : Int} (hs : 0 ≤ s ∧ s < S) (g : nog T I d bad R s = true) : nog T I d bad R' s = true := by
  rw [nog_iff] at *
  intro m hm
  cases e : goodB T I d bad R' s m with
  | false => rfl
  | true => exact absurd (g m hm) (by rw [Z.goodB_mono h hs hm e]; simp)
theorem WF.nog_congr {R R' : Int → Bool} (h : ∀ s : Int, 0 ≤ s ∧ s < S → R s = R' s) {s : Int} (hs : 0 ≤ s ∧ s < S) : nog T I d bad R s = nog T I d bad R' s := by
  have a := Z.nog_mono (bad := bad) (R := R) (R' := R') (fun s hs e => by rw [← h s hs]; exact e) hs
  have b := Z.nog_mono (bad := bad) (R := R') (R' := R) (fun s hs e => by rw [h s hs]; exact e) hs
  cases e : nog T I d bad R s <;> cases e' : nog T I d bad R' s <;> simp_all
/-- what is lost has no good move, and keeps none -/
theorem WF.inv : ∀ k (s : Int), 0 ≤ s ∧ s < S → isS (Rn T I d S bad k) s = true → nog T I d bad (isS (Rn T I d S bad k)) s = true
  | 0, s, hs, h => by
    obtain ⟨n, rfl⟩ := Int.eq_ofNat_of_zero_le hs.1
    have hn : n < S := by omega
    unfold isS Rn at h
    rw [gx_nat (by simpa using hn)] at h
    simp at h
  | k + 1, s, hs, h => by
    have mono : ∀ s : Int, 0 ≤ s ∧ s < S → isS (Rn T I d S bad k) s = true → isS (Rn T I d S bad (k + 1)) s = true := fun s hs e => by
      show isS (stp _ _ _ _ _ _ _) s = true
      rw [stp_isS hs, e]; rfl
    rw [show isS (Rn T I d S bad (k + 1)) s = isS (stp T I d S bad ((k + 1 : Nat) : Int) (Rn T I d S bad k)) s from rfl, stp_isS hs, Bool.or_eq_true] at h
    rcases h with h | h
    · exact Z.nog_mono mono hs (WF.inv k s hs h)
    · exact Z.nog_mono mono hs h
/-! ### lost_rounds -/
theorem WF.b17 {n : Int} {R : Ro} (hR : R.length = S) (c : Bool) : m_lost_rounds_b17 T d bad (n, R, c) = .ok (.nx (n + 1, stp T I d S bad (n + 1) R, decide (fallen T I d S bad R ≠ []))) := by
  have s12 := Z.s12
  have hleft : lcB (fun x7 => isNM (idxM (.ok R) (.ok x7))) (fun x7 => .ok x7) (rng1M (Res.bind (.ok T) fun a => m_state_count a)) = .ok (left S R) := by
    unfold m_state_count
    rw [Res.bind_ok, Res.bind_ok, lenM_ok, Z.hS, rng1_ok (by omega)]
    refine lcB_filter _ (by rw [rgL_length]; omega) fun s hs => ?_
    have hs := mem_rgL.mp hs
    rw [idxM_gx hs.1 (by rw [hR]; omega), isNM_ok]
    unfold isS
    cases gx R s <;> rfl
  have hl : ∀ s ∈ left S R, 0 ≤ s ∧ s < (S : Int) := fun s hs => by
    have := mem_rgL.mp (List.mem_filter.mp hs).1
    exact ⟨this.1, by omega⟩
  have hlen : (left S R).length ≤ S := by
    unfold left
    exact Nat.le_trans (List.length_filter_le _ _) (by rw [rgL_length]; exact Nat.le_refl _)
  have hfall : lcB (fun x10 => notM (truL (Res.bind (pairM (.ok T) (pairM (.ok (d : Int)) (pairM (.ok bad) (pairM (.ok R) (.ok x10))))) fun a => m_good_moves (a.1) (a.2.1) (a.2.2.1) (a.2.2.2.1) (a.2.2.2.2)))) (fun x10 => .ok x10) (.ok (left S R)) = .ok (fallen T I d S bad R) := by
    refine lcB_filter _ (by omega) fun s hs => ?_
    simp only [pairM_ok, Res.bind_ok]
    rw [Z.good hR (hl s hs), truL_ok, notM_ok, Bool.not_not]
    rfl
  unfold m_lost_rounds_b17
  simp only
  unfold augM
  rw [Res.bind_ok, hleft]
  dsimp only
  rw [Res.bind_ok, hfall, Res.bind_ok, Res.bind_ok]
  have hfm : ∀ s ∈ fallen T I d S bad R, 0 ≤ s ∧ s < (S : Int) := fun s hs => (mem_fallen.mp hs).1
  obtain ⟨R', e, h1, h2⟩ := forM_ok (f := m_lost_rounds_b15 (n + 1)) (fun ys R' => R'.length = S ∧ ∀ j : Int, 0 ≤ j ∧ j < S → (j ∉ fallen T I d S bad R → gx R' j = gx R j) ∧ (j ∈ fallen T I d S bad R → j ∈ ys ∨ gx R' j = some (n + 1)))
    (xs := fallen T I d S bad R) (s := R) ⟨hR, fun j hj => ⟨fun _ => rfl, fun h => .inl h⟩⟩ fun x ys R' hx ⟨h1, h2⟩ => by
      have hx' := hfm x hx
      refine ⟨R'.set x.toNat (some (n + 1)), ?_, by simp [h1], fun j hj => ?_⟩
      · unfold m_lost_rounds_b15
        rw [someM_ok, setM_ok hx'.1 (by rw [h1]; exact hx'.2)]
      · rw [gx_set hj.1 (by rw [h1]; omega)]
        have ex : ((x.toNat : Nat) : Int) = x := Int.toNat_of_nonneg hx'.1
        rw [ex]
        by_cases exj : x = j
        · subst exj
          rw [if_pos rfl]
          exact ⟨fun h => absurd hx h, fun _ => .inr rfl⟩
        · rw [if_neg exj]
          obtain ⟨a, b⟩ := h2 j hj
          refine ⟨a, fun h => ?_⟩
          rcases b h with b | b
          · rcases List.mem_cons.mp b with b | b
            · exact absurd b.symm exj
            · exact .inl b
          · exact .inr b
  rw [e, Res.bind_ok]
  have eR : R' = stp T I d S bad (n + 1) R := by
    apply gx_ext (by rw [stp_len, h1])
    intro i hi
    rw [h1] at hi
    have hs : (0 : Int) ≤ (i : Int) ∧ (i : Int) < S := ⟨by omega, by omega⟩
    rw [stp_gx hs]
    by_cases hm : (i : Int) ∈ fallen T I d S bad R
    · have := mem_fallen.mp hm
      rw [this.2.1, this.2.2]
      rcases (h2 i hs).2 hm with h | h
      · cases h
      · rw [h]; rfl
    · rw [(h2 i hs).1 hm, if_neg]
      intro h
      rw [Bool.and_eq_true, Bool.not_eq_true'] at h
      exact hm (mem_fallen.mpr ⟨hs, h.1, h.2⟩)
  rw [← eR]
  have ec : gtM (lenM (.ok (fallen T I d S bad R))) (.ok 0) = .ok (decide (fallen T I d S bad R ≠ [])) := by
    rw [lenM_ok]
    show Res.ok (decide (((fallen T I d S bad R).length : Int) > 0)) = _
    cases h : fallen T I d S bad R with
    | nil => rfl
    | cons a b =>
      have h1 : (a :: b) ≠ [] := by simp
      have h2 : (((a :: b).length : Nat) : Int) > 0 := by simp only [List.length_cons]; omega
      rw [decide_eq_true h1, decide_eq_true h2]
  rw [ec, Res.bind_ok]
theorem WF.wh : ∀ (n j : Nat), (left S (Rn T I d S bad j)).length ≤ n →
    ∃ k, j ≤ k ∧ k ≤ j + n ∧ fallen T I d S bad (Rn T I d S bad k) = [] ∧ ∃ c, whB (fun (s_ : Int × Ro × Bool) => match s_ with | (p_number, p_rounds, p_changed) => .ok p_changed) (m_lost_rounds_b17 T d bad) (n + 2) ((j : Int), Rn T I d S bad j, true) = .ok (.nx (c, Rn T I d S bad k, false)) := by
  intro n
  induction n with
  | zero =>
    intro j hn
    have hf : fallen T I d S bad (Rn T I d S bad j) = [] := by
      have : left S (Rn T I d S bad j) = [] := List.eq_nil_of_length_eq_zero (by omega)
      unfold fallen; rw [this]; rfl
    refine ⟨j, by omega, by omega, hf, ((j : Int) + 1), ?_⟩
    unfold whB
    rw [Res.bind_ok, if_pos rfl, Z.b17 (Rn_len j), Res.bind_ok]
    unfold whB
    rw [stp_same (Rn_len j) hf, hf]
    rfl
  | succ n ih =>
    intro j hn
    by_cases hf : fallen T I d S bad (Rn T I d S bad j) = []
    · refine ⟨j, by omega, by omega, hf, ((j : Int) + 1), ?_⟩
      unfold whB
      rw [Res.bind_ok, if_pos rfl, Z.b17 (Rn_len j), Res.bind_ok]
      unfold whB
      rw [stp_same (Rn_len j) hf, hf]
      rfl
    · have hl : (left S (Rn T I d S bad (j + 1))).length ≤ n := by
        have := left_stp (T := T) (I := I) (d := d) (S := S) (bad := bad) (n := ((j + 1 : Nat) : Int)) (R := Rn T I d S bad j)
        have hp := List.length_pos_iff.mpr hf
        show (left S (stp _ _ _ _ _ _ _)).length ≤ n
        omega
      obtain ⟨k, h1, h2, h3, c, h4⟩ := ih (j + 1) hl
      refine ⟨k, by omega, by omega, h3, c, ?_⟩
      rw [← h4]
      rw [show n + 1 + 2 = (n + 2) + 1 from rfl]
      conv => lhs; unfold whB
      rw [Res.bind_ok, if_pos rfl, Z.b17 (Rn_len j), Res.bind_ok, decide_eq_true hf]
      rfl
theorem WF.lost : m_lost_rounds T d bad = .ok (Rn T I d S bad S) ∧ fallen T I d S bad (Rn T I d S bad S) = [] := by
  have s12 := Z.s12
  obtain ⟨k, _, h2, h3, c, h4⟩ := Z.wh (bad := bad) S 0 (by
    unfold left
    exact Nat.le_trans (List.length_filter_le _ _) (by rw [rgL_length]; exact Nat.le_refl _))
  have eS := Rn_stable h3 S (by omega)
  refine ⟨?_, by rw [eS]; exact h3⟩
  unfold m_lost_rounds
  rw [Res.bind_ok, lcB_map (fun _ => (none : Option Int)) (by rw [Z.hS]; omega) (fun _ _ => rfl), Res.bind_ok, Res.bind_ok, Res.bind_ok]
  have e0 : T.2.2.map (fun _ => (none : Option Int)) = Rn T I d S bad 0 := by
    unfold Rn
    rw [List.map_const', Z.hS]
  rw [e0, Z.hS]
  have h4' := h4
  rw [show ((0 : Nat) : Int) = 0 from rfl] at h4'
  rw [h4', Res.bind_ok, eS]
  rfl
end
end G94

namespace G94
open PySem L2 Mw
theorem enumL_eq {α : Type} [Inhabited α] (xs : List α) : enumL xs = (rgL 0 xs.length).map fun i => (i, gx xs i) := by
  unfold enumL rgL
  rw [List.map_map]
  apply List.ext_getElem
  · simp
  · intro i h1 h2
    simp only [List.length_mapIdx] at h1
    simp [gx_nat h1]
theorem cnt0 {α : Type} (p q : α → Bool) {xs : List α} (h : ∀ x ∈ xs, q x = !p x) : decide (((xs.filter q).length : Int) = 0) = xs.all p := by
  induction xs with
  | nil => rfl
  | cons x xs ih =>
    have ih := ih fun y hy => h y (List.mem_cons_of_mem _ hy)
    have hx := h x (List.mem_cons_self ..)
    cases e : p x with
    | true => rw [e] at hx; rw [List.filter_cons_of_neg (by simp [hx]), ih, List.all_cons, e, Bool.true_and]
    | false =>
      rw [e] at hx
      rw [List.filter_cons_of_pos (by simp [hx]), List.all_cons, e, Bool.false_and]
      apply decide_eq_false
      simp only [List.length_cons]
      omega
section
variable {T : Tb} {I d S O : Nat} {bad : List Int} (Z : WF T I d S O)
include Z
/-- the law's own look at a move -/
theorem WF.look {c : (Int × Int) → Res Bool} (R : Int → Bool) {s m : Int} (hs : 0 ≤ s ∧ s < S) (hm : 0 ≤ m ∧ m < ((2 ^ d : Nat) : Int)) (hc : ∀ p : Int × Int, (0 ≤ p.1 ∧ p.1 < S) → c p = .ok (decide (p.2 ∈ bad) || R p.1)) :
    eqM (lenM (lcB c (fun x => .ok x) (.ok (outs T I d s m)))) (.ok 0) = .ok (goodB T I d bad R s m) := by
  rw [lcB_filter (fun p : Int × Int => decide (p.2 ∈ bad) || R p.1) (Nat.lt_of_le_of_lt Z.outs_len (by decide)) (fun p hp => hc p (Z.outs_t hs hm p hp)), lenM_ok, eqM_ok]
  unfold goodB
  rw [cnt0 (fun p : Int × Int => !decide (p.2 ∈ bad) && !R p.1)]
  intro x hx
  cases decide (x.2 ∈ bad) <;> cases R x.1 <;> rfl
theorem WF.b18 {fo : List Bool} (hf : fo.length = S) {s : Int} (hs : 0 ≤ s ∧ s < S) : forM (m_law_rounds_b18 T d bad fo s) (rgL 0 (2 ^ d)) 0 = .ok ((goods T I d bad (gx fo) s).length : Int) := by
  obtain ⟨g, e, h⟩ := forM_rng (f := m_law_rounds_b18 T d bad fo s) (fun k g => g = (((rgL 0 k).filter (goodB T I d bad (gx fo) s)).length : Int)) (n := 2 ^ d) (s := (0 : Int)) rfl 0 fun k g hk hg => by
    have hm : 0 ≤ (0 : Int) + (k : Int) ∧ (0 : Int) + (k : Int) < ((2 ^ d : Nat) : Int) := ⟨by omega, by omega⟩
    refine ⟨_, ?_, rfl⟩
    unfold m_law_rounds_b18
    simp only [pairM_ok, Res.bind_ok]
    rw [Z.louts hs hm, Res.bind_ok, Z.look (gx fo) hs hm, bif_eq]
    · rw [rgL_succ, List.filter_append]
      cases e : goodB T I d bad (gx fo) s (0 + (k : Int)) with
      | true => rw [if_pos rfl, addM_ok, Res.bind_ok, List.filter_cons_of_pos e, hg]; simp
      | false => rw [if_neg (by simp), List.filter_cons_of_neg (by rw [e]; simp), hg]; simp
    · intro p hp
      rw [inM_ok, orM_ok, idxM_gx hp.1 (by rw [hf]; exact hp.2)]
      cases decide (p.2 ∈ bad) <;> simp
  rw [e, h]; rfl
theorem WF.b21 {fo : List Bool} {R : Ro} (hf : fo.length = S) (hR : R.length = S) (t : Int) :
    ∃ R', forM (m_law_rounds_b21 T d bad fo t) (rgL 0 S) ([], R) = .ok ((rgL 0 S).map (nog T I d bad (gx fo)), R') ∧ R'.length = S ∧ ∀ j : Int, 0 ≤ j ∧ j < S → gx R' j = if !isS R j && nog T I d bad (gx fo) j then some t else gx R j := by
  have s12 := Z.s12
  obtain ⟨⟨w, R'⟩, e, h1, h2, h3⟩ := forM_rng (f := m_law_rounds_b21 T d bad fo t) (fun k x => x.1 = (rgL 0 k).map (nog T I d bad (gx fo)) ∧ x.2.length = S ∧ ∀ j : Int, 0 ≤ j ∧ j < S → gx x.2 j = if decide (j < (k : Int)) && (!isS R j && nog T I d bad (gx fo) j) then some t else gx R j) (n := S) (s := ([], R)) ⟨rfl, hR, fun j hj => by
      rw [show decide (j < ((0 : Nat) : Int)) = false from decide_eq_false (by omega)]; rfl⟩ 0 fun k ⟨w, R'⟩ hk ⟨h1, h2, h3⟩ => by
    have hs : 0 ≤ (0 : Int) + (k : Int) ∧ (0 : Int) + (k : Int) < S := ⟨by omega, by omega⟩
    dsimp only at h1 h2 h3
    unfold m_law_rounds_b21
    dsimp only
    rw [Res.bind_ok, Z.rgd, Res.bind_ok, Z.b18 hf hs, Res.bind_ok, eqM_ok]
    have en : decide (((goods T I d bad (gx fo) (0 + (k : Int))).length : Int) = 0) = nog T I d bad (gx fo) (0 + (k : Int)) := by
      unfold nog
      cases h : goods T I d bad (gx fo) (0 + (k : Int)) with
      | nil => rfl
      | cons a b =>
        apply decide_eq_false
        simp only [List.length_cons]
        omega
    rw [en, appM_ok _ _ _ (Nat.lt_trans (by rw [h1, List.length_map, rgL_length]; omega : w.length < 1000000) lim_big), andM_ok, idxM_gx hs.1 (by rw [h2]; exact hs.2), isNM_ok]
    have hk' : decide ((0 + (k : Int)) < (k : Int)) = false := decide_eq_false (by omega)
    have eR : gx R' (0 + (k : Int)) = gx R (0 + (k : Int)) := by
      rw [h3 _ hs, hk']; rfl
    rw [eR]
    have ec : (if nog T I d bad (gx fo) (0 + (k : Int)) = true then Res.ok (gx R (0 + (k : Int))).isNone else Res.ok false) = .ok (!isS R (0 + (k : Int)) && nog T I d bad (gx fo) (0 + (k : Int))) := by
      unfold isS
      cases nog T I d bad (gx fo) (0 + (k : Int)) <;> cases gx R (0 + (k : Int)) <;> rfl
    rw [ec, bif_eq]
    have ew : w ++ [nog T I d bad (gx fo) (0 + (k : Int))] = (rgL 0 (k + 1)).map (nog T I d bad (gx fo)) := by
      rw [rgL_succ, List.map_append, h1]; rfl
    have lt : ∀ j : Int, j ≠ (0 : Int) + (k : Int) → decide (j < ((k + 1 : Nat) : Int)) = decide (j < (k : Int)) := fun j hj => by
      by_cases h : j < (k : Int)
      · rw [decide_eq_true h, decide_eq_true (by omega)]
      · rw [decide_eq_false h, decide_eq_false (by omega)]
    have tr : decide ((0 : Int) + (k : Int) < ((k + 1 : Nat) : Int)) = true := decide_eq_true (by omega)
    cases eb : (!isS R (0 + (k : Int)) && nog T I d bad (gx fo) (0 + (k : Int))) with
    | true =>
      rw [if_pos rfl, someM_ok, setM_ok hs.1 (by rw [h2]; exact hs.2)]
      refine ⟨_, rfl, ew, by simp [h2], fun j hj => ?_⟩
      dsimp only
      rw [gx_set hj.1 (by rw [h2]; omega)]
      have ex : (((0 + (k : Int)).toNat : Nat) : Int) = 0 + (k : Int) := Int.toNat_of_nonneg hs.1
      rw [ex]
      by_cases ej : (0 : Int) + (k : Int) = j
      · rw [if_pos ej, ← ej, eb, tr]; rfl
      · rw [if_neg ej, h3 j hj, lt j (fun h => ej h.symm)]
    | false =>
      rw [if_neg (by simp)]
      refine ⟨_, rfl, ew, h2, fun j hj => ?_⟩
      dsimp only
      rw [h3 j hj]
      by_cases ej : j = (0 : Int) + (k : Int)
      · rw [ej, eb, Bool.and_false, Bool.and_false]
      · rw [lt j ej]
  dsimp only at h1 h2 h3
  refine ⟨R', by rw [e, h1], h2, fun j hj => ?_⟩
  rw [h3 j hj, decide_eq_true hj.2, Bool.true_and]
theorem WF.lrounds : m_law_rounds T d bad = .ok (Rn T I d S bad S) := by
  have s12 := Z.s12
  have hS := Z.hS
  unfold m_law_rounds
  rw [Res.bind_ok, lcB_map (fun _ => (none : Option Int)) (by omega) (fun _ _ => rfl), Res.bind_ok, lcB_map (fun _ => false) (by omega) (fun _ _ => rfl), Res.bind_ok, lenM_ok, addM_ok]
  have er : rng2M (.ok 1) (.ok (1 + ((T.2.2.map fun _ => (none : Option Int)).length : Int))) = .ok (rgL 1 S) := by
    have h1 : (inR 1 && inR (1 + ((T.2.2.map fun _ => (none : Option Int)).length : Int))) = true := by
      rw [List.length_map, hS]
      have : ∀ n : Nat, n ≤ 12 → (inR 1 && inR (1 + (n : Int))) = true := by decide +kernel
      exact this S s12
    unfold rng2M
    rw [Res.bind_ok, Res.bind_ok, if_pos h1, List.length_map, hS]
    rw [show (1 + (S : Int) - 1).toNat = S by omega]
  rw [er, Res.bind_ok]
  obtain ⟨⟨R, fo⟩, e, h1, h2, h3⟩ := forM_rng (f := m_law_rounds_b23 T d bad) (fun k x => x.1 = Rn T I d S bad k ∧ x.2.length = S ∧ ∀ j : Int, 0 ≤ j ∧ j < S → gx x.2 j = isS (Rn T I d S bad k) j) (n := S) (s := (T.2.2.map fun _ => (none : Option Int), T.2.2.map fun _ => false))
    ⟨by unfold Rn; rw [List.map_const', hS], by rw [List.length_map, hS], fun j hj => by
      rw [gx_map hj.1 (by rw [hS]; exact hj.2)]
      obtain ⟨n, rfl⟩ := Int.eq_ofNat_of_zero_le hj.1
      have hn : n < S := by omega
      unfold isS Rn
      rw [gx_nat (by simpa using hn)]
      simp⟩ 1 fun k ⟨R, fo⟩ hk ⟨h1, h2, h3⟩ => by
    dsimp only at h1 h2 h3
    have hR : R.length = S := by rw [h1]; exact Rn_len k
    unfold m_law_rounds_b23
    dsimp only
    rw [Res.bind_ok, lenM_ok, hR, rng1_ok (by omega), Res.bind_ok]
    obtain ⟨R', e, hl, hg⟩ := Z.b21 (bad := bad) h2 hR (1 + (k : Int))
    rw [e, Res.bind_ok, Res.bind_ok]
    have hn : ∀ j : Int, 0 ≤ j ∧ j < S → nog T I d bad (gx fo) j = nog T I d bad (isS (Rn T I d S bad k)) j := fun j hj => Z.nog_congr h3 hj
    refine ⟨_, rfl, ?_, by rw [List.length_map, rgL_length], fun j hj => ?_⟩
    · apply gx_ext (by rw [hl, Rn_len])
      intro i hi
      dsimp only at hi ⊢
      rw [hl] at hi
      have hs : (0 : Int) ≤ (i : Int) ∧ (i : Int) < S := ⟨by omega, by omega⟩
      rw [hg i hs, hn i hs, h1]
      show _ = gx (stp T I d S bad ((k + 1 : Nat) : Int) (Rn T I d S bad k)) (i : Int)
      rw [stp_gx hs]
      rw [show (1 + (k : Int)) = ((k + 1 : Nat) : Int) by omega]
    · dsimp only
      rw [gx_map hj.1 (by rw [rgL_length]; exact hj.2), gx_rgL hj.1 hj.2, Int.zero_add, hn j hj]
      show _ = isS (stp T I d S bad ((k + 1 : Nat) : Int) (Rn T I d S bad k)) j
      rw [stp_isS hj]
      cases h : isS (Rn T I d S bad k) j with
      | false => simp
      | true => rw [Z.inv k j hj h]; rfl
  rw [e, Res.bind_ok]
  dsimp only at h1 ⊢
  rw [h1]
omit Z in
def movs (T : Tb) (I d S : Nat) (bad : List Int) (R : Ro) : Ro := (rgL 0 S).map fun s => if isS R s = true then none else (goods T I d bad (isS R) s).head?
theorem WF.b14 {R : Ro} (hR : R.length = S) {s : Int} (hs : 0 ≤ s ∧ s < S) : forM (m_law_moves_b14 T d bad R s) (rgL 0 (2 ^ d)) [none] = .ok (none :: (goods T I d bad (isS R) s).map some) := by
  have h8 := Z.two (k := d) Z.dI
  obtain ⟨g, e, h⟩ := forM_rng (f := m_law_moves_b14 T d bad R s) (fun k g => g = none :: ((rgL 0 k).filter (goodB T I d bad (isS R) s)).map some) (n := 2 ^ d) (s := [none]) rfl 0 fun k g hk hg => by
    have hm : 0 ≤ (0 : Int) + (k : Int) ∧ (0 : Int) + (k : Int) < ((2 ^ d : Nat) : Int) := ⟨by omega, by omega⟩
    refine ⟨_, ?_, rfl⟩
    unfold m_law_moves_b14
    simp only [pairM_ok, Res.bind_ok]
    rw [Z.louts hs hm, Res.bind_ok, Z.look (isS R) hs hm, bif_eq]
    · rw [rgL_succ, List.filter_append]
      have hl : g.length < 1000000 := by
        rw [hg, List.length_cons, List.length_map]
        have := List.length_filter_le (goodB T I d bad (isS R) s) (rgL 0 k)
        rw [rgL_length] at this
        omega
      cases e : goodB T I d bad (isS R) s (0 + (k : Int)) with
      | true => rw [if_pos rfl, someM_ok, appM_ok _ _ _ (Nat.lt_trans hl lim_big), List.filter_cons_of_pos e, hg]; simp
      | false => rw [if_neg (by simp), List.filter_cons_of_neg (by rw [e]; simp), hg]; simp
    · intro p hp
      rw [inM_ok, orM_ok, idxM_gx hp.1 (by rw [hR]; exact hp.2), notNM_ok]
      unfold isS
      cases decide (p.2 ∈ bad) <;> simp
  rw [e, h]; rfl
theorem WF.lmoves {R : Ro} (hR : R.length = S) : m_law_moves T d bad R = .ok (movs T I d S bad R) := by
  have s12 := Z.s12
  have h8 := Z.two (k := d) Z.dI
  unfold m_law_moves
  rw [Res.bind_ok, lenM_ok, hR, rng1_ok (by omega), Res.bind_ok, forM_app (fun s => if isS R s = true then none else (goods T I d bad (isS R) s).head?) (by rw [rgL_length]; omega)]
  · rfl
  · intro s acc hs
    have hs := mem_rgL.mp hs
    have hs : 0 ≤ s ∧ s < (S : Int) := ⟨hs.1, by omega⟩
    unfold m_law_moves_b16
    rw [consM_ok, Res.bind_ok, idxM_gx hs.1 (by rw [hR]; exact hs.2), isNM_ok, bif_eq]
    have hj : ∀ gs : Ro, gs.length ≤ 9 → m_law_moves_j5 acc (none :: gs) = appM acc (.ok ((gs ++ [none]).headD none)) .ok := fun gs hg => by
      unfold m_law_moves_j5
      dsimp only
      have ec : catM (.ok (none :: gs)) (consM (.ok none) (.ok [])) = .ok ((none :: gs) ++ [none]) := by
        show (if (none :: gs).length + [none].length ≤ lim then Res.ok ((none :: gs) ++ [none]) else .stuck) = _
        rw [if_pos]
        have := lim_big
        simp only [List.length_cons, List.length_nil]
        omega
      rw [ec, idxM_gx (by omega) (by simp only [List.length_append, List.length_cons, List.length_nil]; omega)]
      congr 2
      cases gs <;> rfl
    unfold isS
    cases e : gx R s with
    | some x =>
      rw [if_neg (by simp)]
      rw [hj [] (by simp)]; rfl
    | none =>
      rw [if_pos (show (none : Option Int).isNone = true from rfl), Z.rgd, Res.bind_ok, Z.b14 hR hs, Res.bind_ok, hj]
      · rw [if_neg (by simp)]
        have : (goods T I d bad (fun s => (gx R s).isSome) s) = goods T I d bad (isS R) s := rfl
        rw [this]
        cases goods T I d bad (isS R) s <;> rfl
      · rw [List.length_map]
        unfold goods
        have := List.length_filter_le (goodB T I d bad (isS R) s) (rgL 0 (2 ^ d))
        rw [rgL_length] at this
        omega
theorem WF.chk : m_check_driver T d = .ok () := by
  unfold m_check_driver
  have := Z.dI
  rw [Res.bind_ok, Z.hI]
  have e : chainM (fun i j => decide (i ≤ j)) (fun i j => decide (i ≤ j)) (.ok (0 : Int)) (.ok (d : Int)) (.ok (I : Int)) = .ok true := by
    show (if decide ((0 : Int) ≤ (d : Int)) = true then Res.ok (decide ((d : Int) ≤ (I : Int))) else .ok false) = _
    rw [if_pos (decide_eq_true (by omega)), decide_eq_true (by omega)]
  rw [e]; rfl
theorem WF.play : m_play_game T d bad = .ok (if isS (Rn T I d S bad S) 0 = true then ("lost", Rn T I d S bad S) else ("safe", movs T I d S bad (Rn T I d S bad S))) := by
  have s1 := Z.s1
  have s12 := Z.s12
  obtain ⟨hl, hf⟩ := Z.lost (bad := bad)
  have hR : (Rn T I d S bad S).length = S := Rn_len S
  unfold m_play_game
  simp only [pairM_ok, Res.bind_ok]
  rw [Z.chk, Res.bind_ok, hl, Res.bind_ok, idxM_gx (by omega) (by rw [hR]; omega), notNM_ok, bif_eq]
  generalize hRR : Rn T I d S bad S = R at *
  show (if isS R 0 = true then _ else _) = _
  split
  · rfl
  · rw [enumM_ok, enumL_eq, hR, Res.bind_ok, forM_app (fun x : Int × Option Int => if isS R x.1 = true then none else (goods T I d bad (isS R) x.1).head?)]
    · rw [Res.bind_ok, List.map_map]; rfl
    · rw [List.length_map, rgL_length]; omega
    · intro x acc hx
      obtain ⟨s, hs, rfl⟩ := List.mem_map.mp hx
      have hs := mem_rgL.mp hs
      have hs : 0 ≤ s ∧ s < (S : Int) := ⟨hs.1, by omega⟩
      unfold m_play_game_b8
      dsimp only
      simp only [pairM_ok, Res.bind_ok]
      rw [isNM_ok, bif_eq]
      congr 1
      cases e : isS R s with
      | true =>
        unfold isS at e
        rw [if_neg (by cases h : gx R s <;> simp_all), if_pos rfl]
      | false =>
        have e' := e
        unfold isS at e
        rw [if_pos (by cases h : gx R s <;> simp_all), if_neg (by simp), Z.good hR hs]
        cases hg : goods T I d bad (isS R) s with
        | nil =>
          have : s ∈ fallen T I d S bad R := mem_fallen.mpr ⟨hs, e', by unfold nog; rw [hg]; rfl⟩
          rw [hf] at this
          cases this
        | cons a b =>
          rw [idxM_gx (by omega) (by simp only [List.length_cons]; omega), someM_ok]
          rfl
end
end G94

namespace G94
open PySem L2 Mw
theorem elB {ρ : Type} {N : Unit → Res ρ} {R : Bool → Res ρ} (b : Bool) : Lp.el N R (if b = true then .nx () else .rt false) = if b = true then N () else R false := by cases b <;> rfl
theorem forM_exc {α : Type} {c : Nat} {fs : List (Str × V)} {f : α → Unit → Res Unit} (p : α → Bool) : ∀ {xs : List α}, (∀ x ∈ xs, f x () = if p x = true then .ok () else .exc c fs) → Mw.forM f xs () = if xs.all p = true then .ok () else .exc c fs
  | [], _ => rfl
  | x :: xs, h => by
    have ih := forM_exc p (xs := xs) fun y hy => h y (List.mem_cons_of_mem _ hy)
    unfold Mw.forM
    rw [h x (List.mem_cons_self ..), List.all_cons]
    cases e : p x
    · rfl
    · rw [if_pos rfl, Res.bind_ok, ih, Bool.true_and]
def okm (d : Nat) (m : Int) : Bool := decide (0 ≤ m) && decide (m < ((2 ^ d : Nat) : Int))
theorem okm_iff {d : Nat} {m : Int} : okm d m = true ↔ 0 ≤ m ∧ m < ((2 ^ d : Nat) : Int) := by
  unfold okm; rw [Bool.and_eq_true, decide_eq_true_eq, decide_eq_true_eq]
/-- what is asked of a state that has a move -/
def on (M : Ro) (p : Int → Int → Bool) (s : Int) : Bool := match gx M s with | none => true | some m => p s m
theorem on_some {M : Ro} {p : Int → Int → Bool} {s m : Int} (e : gx M s = some m) : on M p s = p s m := by unfold on; rw [e]
theorem on_none {M : Ro} {p : Int → Int → Bool} {s : Int} (e : gx M s = none) : on M p s = true := by unfold on; rw [e]
def usB (T : Tb) (I d : Nat) (M : Ro) (s m : Int) : Bool := okm d m && (outs T I d s m).all fun p => isS M p.1
def saB (T : Tb) (I d : Nat) (bad : List Int) (M : Ro) (s m : Int) : Bool := okm d m && (outs T I d s m).all fun p => !decide (p.2 ∈ bad) && isS M p.1
def usable (T : Tb) (I d S : Nat) (M : Ro) : Bool := decide (M.length = S) && (isS M 0 && (rgL 0 S).all (on M (usB T I d M)))
def safe (T : Tb) (I d S : Nat) (bad : List Int) (M : Ro) : Bool := decide (M.length = S) && (isS M 0 && (rgL 0 S).all (on M (saB T I d bad M)))
def ltB (R : Ro) (n t : Int) : Bool := match gx R t with | none => false | some k => decide (k < n)
def spB (T : Tb) (I d : Nat) (bad : List Int) (R : Ro) (s n : Int) : Bool := decide (1 ≤ n) && (rgL 0 (2 ^ d)).all fun m => (outs T I d s m).any fun p => decide (p.2 ∈ bad) || ltB R n p.1
def lostB (T : Tb) (I d S : Nat) (bad : List Int) (R : Ro) : Bool := decide (R.length = S) && (isS R 0 && (rgL 0 S).all (on R (spB T I d bad R)))
section
variable {T : Tb} {I d S O : Nat} {bad : List Int} (Z : WF T I d S O) {M : Ro}
include Z
/-- the way in, the same in all -/
theorem WF.gate {ρ : Type} {a b : Res ρ} (hl : M.length ≠ S → True) : Res.ite (orM (neM (.ok (M.length : Int)) (.ok (S : Int))) (isNM (idxM (.ok M) (.ok 0)))) a b = if decide (M.length = S) && isS M 0 then b else a := by
  have s1 := Z.s1
  rw [neM_ok, orM_ok]
  by_cases h : M.length = S
  · rw [decide_eq_true (show (M.length : Int) = (S : Int) by rw [h]), decide_eq_true h, Bool.not_true, if_neg (by simp), idxM_gx (by omega) (by omega), isNM_ok, bif_eq, Bool.true_and]
    unfold isS
    cases gx M 0 <;> rfl
  · rw [decide_eq_false (show ¬ (M.length : Int) = (S : Int) by omega), decide_eq_false h]; rfl
theorem WF.sc : m_state_count T = .ok (S : Int) := by
  unfold m_state_count
  rw [Res.bind_ok, lenM_ok, Z.hS]
theorem WF.ismove {m : Int} : m_is_move d m = .ok (okm d m) := by
  have i3 := Z.i3
  have dI := Z.dI
  unfold m_is_move
  rw [shl1_ok (by omega)]
  show (if decide ((0 : Int) ≤ m) = true then Res.ok (decide (m < ((2 ^ d : Nat) : Int))) else .ok false) = _
  unfold okm
  cases decide ((0 : Int) ≤ m) <;> rfl
theorem WF.lusable : m_law_usable T d M = .ok (usable T I d S M) := by
  have s12 := Z.s12
  have i3 := Z.i3
  have dI := Z.dI
  unfold m_law_usable usable
  rw [Res.bind_ok, lenM_ok, lenM_ok, Z.hS, Z.gate (fun _ => trivial)]
  by_cases h : M.length = S
  · rw [decide_eq_true h, Bool.true_and, Bool.true_and]
    cases isS M 0 with
    | false => rfl
    | true =>
      rw [if_pos rfl, Bool.true_and, h, rng1_ok (by omega), Res.bind_ok, forB_all (on M (usB T I d M)), Res.bind_ok, elB]
      · cases (rgL 0 S).all (on M (usB T I d M)) <;> rfl
      · intro s hs
        have hs := mem_rgL.mp hs
        have hs : 0 ≤ s ∧ s < (S : Int) := ⟨hs.1, by omega⟩
        unfold m_law_usable_b8
        try dsimp only
        rw [idxM_gx hs.1 (by rw [h]; exact hs.2), notNM_ok, bif_eq]
        cases e : gx M s with
        | none => rw [on_none e]; rfl
        | some m =>
          rw [on_some e, Res.bind_ok, getM_some, shl1_ok (by omega)]
          simp only [pairM_ok, Res.bind_ok, Option.isSome_some, if_true]
          have ec : orM (ltM (.ok m) (.ok 0)) (geM (.ok m) (.ok ((2 ^ d : Nat) : Int))) = .ok (!okm d m) := by
            show (if decide (m < 0) = true then Res.ok true else Res.ok (decide (m ≥ ((2 ^ d : Nat) : Int)))) = _
            unfold okm
            by_cases h0 : m < 0
            · rw [decide_eq_true h0, decide_eq_false (show ¬ 0 ≤ m by omega)]; rfl
            · rw [decide_eq_false h0, decide_eq_true (show 0 ≤ m by omega)]
              by_cases h1 : m < ((2 ^ d : Nat) : Int)
              · rw [decide_eq_true h1, decide_eq_false (show ¬ m ≥ ((2 ^ d : Nat) : Int) by omega)]; rfl
              · rw [decide_eq_false h1, decide_eq_true (show m ≥ ((2 ^ d : Nat) : Int) by omega)]; rfl
          rw [ec, bif_eq]
          unfold usB
          cases ek : okm d m with
          | false => rfl
          | true =>
            rw [Bool.not_true, if_neg (by simp), Z.louts hs (okm_iff.mp ek), Res.bind_ok, forB_all (fun p => isS M p.1), Res.bind_ok, elB, Bool.true_and]
            · cases (outs T I d s m).all fun p => isS M p.1 <;> rfl
            · rintro ⟨t, a⟩ hp
              have ht := Z.outs_t hs (okm_iff.mp ek) _ hp
              unfold m_law_usable_b7
              dsimp only at ht ⊢
              rw [idxM_gx ht.1 (by rw [h]; exact ht.2), isNM_ok, bif_eq]
              unfold isS
              cases gx M t <;> rfl
  · rw [decide_eq_false h]; rfl
theorem WF.safe_us : safe T I d S bad M = (usable T I d S M && (rgL 0 S).all (on M fun s m => (outs T I d s m).all fun p => !decide (p.2 ∈ bad))) := by
  unfold safe usable
  rw [Bool.and_assoc, Bool.and_assoc]
  congr 2
  rw [Bool.eq_iff_iff, Bool.and_eq_true, List.all_eq_true, List.all_eq_true, List.all_eq_true]
  have key : ∀ s, on M (saB T I d bad M) s = true ↔ (on M (usB T I d M) s = true ∧ on M (fun s m => (outs T I d s m).all fun p => !decide (p.2 ∈ bad)) s = true) := by
    intro s
    unfold on
    cases gx M s with
    | none => simp
    | some m =>
      dsimp only
      unfold saB usB
      rw [Bool.and_eq_true, Bool.and_eq_true, List.all_eq_true, List.all_eq_true, List.all_eq_true]
      constructor
      · rintro ⟨h1, h2⟩
        exact ⟨⟨h1, fun p hp => (Bool.and_eq_true _ _ ▸ h2 p hp : _ ∧ _).2⟩, fun p hp => (Bool.and_eq_true _ _ ▸ h2 p hp : _ ∧ _).1⟩
      · rintro ⟨⟨h1, h2⟩, h3⟩
        exact ⟨h1, fun p hp => by rw [h2 p hp, h3 p hp]; rfl⟩
  constructor
  · intro h
    exact ⟨fun s hs => ((key s).mp (h s hs)).1, fun s hs => ((key s).mp (h s hs)).2⟩
  · rintro ⟨h1, h2⟩ s hs
    exact (key s).mpr ⟨h1 s hs, h2 s hs⟩
theorem WF.us_len (h : usable T I d S M = true) : M.length = S := by
  unfold usable at h
  rw [Bool.and_eq_true] at h
  simpa using h.1
theorem WF.us_ok (h : usable T I d S M = true) {s m : Int} (hs : 0 ≤ s ∧ s < S) (e : gx M s = some m) : usB T I d M s m = true := by
  unfold usable at h
  rw [Bool.and_eq_true, Bool.and_eq_true, List.all_eq_true] at h
  have := h.2.2 s (mem_rgL.mpr ⟨hs.1, by omega⟩)
  unfold on at this
  rw [e] at this
  exact this
theorem WF.us_mv (h : usable T I d S M = true) {s m : Int} (hs : 0 ≤ s ∧ s < S) (e : gx M s = some m) : 0 ≤ m ∧ m < ((2 ^ d : Nat) : Int) := by
  have := Z.us_ok h hs e
  unfold usB at this
  rw [Bool.and_eq_true] at this
  exact okm_iff.mp this.1
theorem WF.lsafe : m_law_safe T d bad M = .ok (safe T I d S bad M) := by
  have s12 := Z.s12
  unfold m_law_safe
  simp only [pairM_ok, Res.bind_ok]
  rw [Z.lusable, notM_ok, bif_eq, Z.safe_us]
  cases hu : usable T I d S M with
  | false => rfl
  | true =>
    have h := Z.us_len hu
    rw [Bool.not_true, if_neg (by simp), lenM_ok, h, rng1_ok (by omega), Res.bind_ok, forB_all (on M fun s m => (outs T I d s m).all fun p => !decide (p.2 ∈ bad)), Res.bind_ok, elB, Bool.true_and]
    · cases (rgL 0 S).all (on M fun s m => (outs T I d s m).all fun p => !decide (p.2 ∈ bad)) <;> rfl
    · intro s hs
      have hs := mem_rgL.mp hs
      have hs : 0 ≤ s ∧ s < (S : Int) := ⟨hs.1, by omega⟩
      unfold m_law_safe_b7
      try dsimp only
      rw [idxM_gx hs.1 (by rw [h]; exact hs.2), notNM_ok, bif_eq]
      cases e : gx M s with
      | none => rw [on_none e]; rfl
      | some m =>
        rw [on_some e]
        simp only [pairM_ok, Res.bind_ok, getM_some, Option.isSome_some, if_true]
        rw [Z.louts hs (Z.us_mv hu hs e), Res.bind_ok, lcB_filter (fun p : Int × Int => decide (p.2 ∈ bad)) (Nat.lt_of_le_of_lt Z.outs_len (by decide)) (fun p hp => by rw [inM_ok]), lenM_ok]
        have := cnt0 (fun p : Int × Int => !decide (p.2 ∈ bad)) (fun p => decide (p.2 ∈ bad)) (xs := outs T I d s m) (fun x _ => by simp)
        rw [← this]
        show Res.ite (.ok (decide ((((outs T I d s m).filter fun p => decide (p.2 ∈ bad)).length : Int) > 0))) _ _ = _
        rw [bif_eq]
        by_cases hz : (((outs T I d s m).filter fun p => decide (p.2 ∈ bad)).length : Int) = 0
        · rw [decide_eq_true hz, decide_eq_false (by omega)]; rfl
        · rw [decide_eq_false hz, decide_eq_true (by omega)]; rfl
theorem WF.ssafe : m_shows_safe T d bad M = .ok (safe T I d S bad M) := by
  have s12 := Z.s12
  unfold m_shows_safe safe
  simp only [pairM_ok, Res.bind_ok]
  rw [Z.chk, Res.bind_ok, lenM_ok, Z.sc, Z.gate (fun _ => trivial)]
  by_cases h : M.length = S
  · rw [decide_eq_true h, Bool.true_and, Bool.true_and]
    cases isS M 0 with
    | false => rfl
    | true =>
      rw [if_pos rfl, Bool.true_and, enumM_ok, enumL_eq, h, Res.bind_ok, forB_all (fun x : Int × Option Int => on M (saB T I d bad M) x.1), Res.bind_ok, elB, List.all_map]
      · show _ = Res.ok ((rgL 0 S).all ((fun x : Int × Option Int => on M (saB T I d bad M) x.1) ∘ fun i => (i, gx M i)))
        cases (rgL 0 S).all ((fun x : Int × Option Int => on M (saB T I d bad M) x.1) ∘ fun i => (i, gx M i)) <;> rfl
      · intro x hx
        obtain ⟨s, hs, rfl⟩ := List.mem_map.mp hx
        have hs := mem_rgL.mp hs
        have hs : 0 ≤ s ∧ s < (S : Int) := ⟨hs.1, by omega⟩
        unfold m_shows_safe_b9
        dsimp only
        rw [notNM_ok, bif_eq]
        cases e : gx M s with
        | none => rw [on_none e]; rfl
        | some m =>
          rw [on_some e]
          simp only [pairM_ok, Res.bind_ok, getM_some, Option.isSome_some, if_true]
          rw [Z.ismove, notM_ok, bif_eq]
          unfold saB
          cases ek : okm d m with
          | false => rfl
          | true =>
            rw [Bool.not_true, if_neg (by simp), Z.outcomes hs (okm_iff.mp ek), Res.bind_ok, forB_all (fun p => !decide (p.2 ∈ bad) && isS M p.1), Res.bind_ok, elB, Bool.true_and]
            · cases (outs T I d s m).all fun p => !decide (p.2 ∈ bad) && isS M p.1 <;> rfl
            · rintro ⟨t, a⟩ hp
              have ht := Z.outs_t hs (okm_iff.mp ek) _ hp
              unfold m_shows_safe_b8
              dsimp only at ht ⊢
              rw [inM_ok, orM_ok, idxM_gx ht.1 (by rw [h]; exact ht.2), isNM_ok]
              unfold isS
              cases decide (a ∈ bad) <;> cases gx M t <;> rfl
  · rw [decide_eq_false h]; rfl
end
end G94

namespace G94
open PySem L2 Mw
theorem cntI {α : Type} (f : α → Int → Res Int) (p : α → Bool) : ∀ {xs : List α} {n : Int}, (∀ x ∈ xs, ∀ n, f x n = .ok (if p x = true then n + 1 else n)) → Mw.forM f xs n = .ok (n + ((xs.filter p).length : Int))
  | [], n, _ => by simp [Mw.forM]
  | x :: xs, n, h => by
    unfold Mw.forM
    rw [h x (List.mem_cons_self ..), Res.bind_ok, cntI f p fun y hy => h y (List.mem_cons_of_mem _ hy)]
    cases e : p x
    · rw [if_neg (by simp), List.filter_cons_of_neg (by rw [e]; simp)]
    · rw [if_pos rfl, List.filter_cons_of_pos e, List.length_cons]
      congr 1
      omega
theorem cnt_any {α : Type} (p : α → Bool) (xs : List α) : decide ((0 : Int) + ((xs.filter p).length : Int) = 0) = !xs.any p := by
  have := cnt0 (fun x => !p x) p (xs := xs) fun x _ => by simp
  rw [Int.zero_add, this, List.all_eq_not_any_not]
  simp
section
variable {T : Tb} {I d S O : Nat} {bad : List Int} (Z : WF T I d S O) {M : Ro}
include Z
theorem WF.lthan {R : Ro} (hR : R.length = S) {t n : Int} (a : Int) (ht : 0 ≤ t ∧ t < S) : orM (inM (.ok a) (.ok bad)) (andM (notNM (idxM (.ok R) (.ok t))) (ltM (Res.bind (idxM (.ok R) (.ok t)) getM) (.ok n))) = .ok (decide (a ∈ bad) || ltB R n t) := by
  rw [inM_ok, orM_ok, idxM_gx ht.1 (by rw [hR]; exact ht.2), notNM_ok, andM_ok, Res.bind_ok]
  unfold ltB
  cases decide (a ∈ bad) <;> cases gx R t <;> rfl
theorem WF.llost {R : Ro} : m_law_lost T d bad R = .ok (lostB T I d S bad R) := by
  have s12 := Z.s12
  have h8 := Z.two (k := d) Z.dI
  unfold m_law_lost lostB
  rw [Res.bind_ok, lenM_ok, lenM_ok, Z.hS, Z.gate (fun _ => trivial)]
  by_cases h : R.length = S
  · rw [decide_eq_true h, Bool.true_and, Bool.true_and]
    cases isS R 0 with
    | false => rfl
    | true =>
      rw [if_pos rfl, Bool.true_and, h, rng1_ok (by omega), Res.bind_ok, forB_all (on R (spB T I d bad R)), Res.bind_ok, elB]
      · cases (rgL 0 S).all (on R (spB T I d bad R)) <;> rfl
      · intro s hs
        have hs := mem_rgL.mp hs
        have hs : 0 ≤ s ∧ s < (S : Int) := ⟨hs.1, by omega⟩
        unfold m_law_lost_b13
        rw [idxM_gx hs.1 (by rw [h]; exact hs.2), notNM_ok, bif_eq]
        cases e : gx R s with
        | none => rw [on_none e]; rfl
        | some n =>
          rw [on_some e]
          simp only [Res.bind_ok, getM_some, Option.isSome_some, if_true]
          show Res.ite (.ok (decide (n < 1))) _ _ = _
          rw [bif_eq]
          unfold spB
          by_cases h1 : n < 1
          · rw [decide_eq_true h1, decide_eq_false (show ¬ 1 ≤ n by omega)]; rfl
          · rw [decide_eq_false h1, decide_eq_true (show 1 ≤ n by omega), if_neg (by simp), Bool.true_and, Z.rgd, Res.bind_ok, forB_all (fun m => (outs T I d s m).any fun p => decide (p.2 ∈ bad) || ltB R n p.1), Res.bind_ok, elB]
            · cases (rgL 0 (2 ^ d)).all fun m => (outs T I d s m).any fun p => decide (p.2 ∈ bad) || ltB R n p.1 <;> rfl
            · intro m hm
              have hm := mem_rgL.mp hm
              have hm : 0 ≤ m ∧ m < ((2 ^ d : Nat) : Int) := ⟨hm.1, by omega⟩
              unfold m_law_lost_b12
              simp only [pairM_ok, Res.bind_ok]
              rw [Z.louts hs hm, Res.bind_ok, cntI _ (fun p : Int × Int => decide (p.2 ∈ bad) || ltB R n p.1), Res.bind_ok, eqM_ok, cnt_any, bif_eq]
              · cases (outs T I d s m).any fun p => decide (p.2 ∈ bad) || ltB R n p.1 <;> rfl
              · rintro ⟨t, a⟩ hp w
                have ht := Z.outs_t hs hm _ hp
                unfold m_law_lost_b11
                dsimp only at ht ⊢
                rw [idxM_gx hs.1 (by rw [h]; exact hs.2), e, Res.bind_ok, getM_some, Z.lthan h a ht, bif_eq, addM_ok, Res.bind_ok]
                cases decide (a ∈ bad) || ltB R n t <;> rfl
  · rw [decide_eq_false h]; rfl
theorem WF.slost {R : Ro} : m_shows_lost T d bad R = .ok (lostB T I d S bad R) := by
  have s12 := Z.s12
  have h8 := Z.two (k := d) Z.dI
  unfold m_shows_lost lostB
  simp only [pairM_ok, Res.bind_ok]
  rw [Z.chk, Res.bind_ok, lenM_ok, Z.sc, Z.gate (fun _ => trivial)]
  by_cases h : R.length = S
  · rw [decide_eq_true h, Bool.true_and, Bool.true_and]
    cases isS R 0 with
    | false => rfl
    | true =>
      rw [if_pos rfl, Bool.true_and, enumM_ok, enumL_eq, h, Res.bind_ok, forB_all (fun x : Int × Option Int => on R (spB T I d bad R) x.1), Res.bind_ok, elB, List.all_map]
      · show _ = Res.ok ((rgL 0 S).all ((fun x : Int × Option Int => on R (spB T I d bad R) x.1) ∘ fun i => (i, gx R i)))
        cases (rgL 0 S).all ((fun x : Int × Option Int => on R (spB T I d bad R) x.1) ∘ fun i => (i, gx R i)) <;> rfl
      · intro x hx
        obtain ⟨s, hs, rfl⟩ := List.mem_map.mp hx
        have hs := mem_rgL.mp hs
        have hs : 0 ≤ s ∧ s < (S : Int) := ⟨hs.1, by omega⟩
        unfold m_shows_lost_b9
        dsimp only
        rw [notNM_ok, bif_eq]
        cases e : gx R s with
        | none => rw [on_none e]; rfl
        | some n =>
          rw [on_some e]
          simp only [Res.bind_ok, getM_some, Option.isSome_some, if_true]
          show Res.ite (.ok (decide (n < 1))) _ _ = _
          rw [bif_eq]
          unfold spB
          by_cases h1 : n < 1
          · rw [decide_eq_true h1, decide_eq_false (show ¬ 1 ≤ n by omega)]; rfl
          · rw [decide_eq_false h1, decide_eq_true (show 1 ≤ n by omega), if_neg (by simp), Bool.true_and, Z.rgd, Res.bind_ok, forB_all (fun m => (outs T I d s m).any fun p => decide (p.2 ∈ bad) || ltB R n p.1), Res.bind_ok, elB]
            · cases (rgL 0 (2 ^ d)).all fun m => (outs T I d s m).any fun p => decide (p.2 ∈ bad) || ltB R n p.1 <;> rfl
            · intro m hm
              have hm := mem_rgL.mp hm
              have hm : 0 ≤ m ∧ m < ((2 ^ d : Nat) : Int) := ⟨hm.1, by omega⟩
              unfold m_shows_lost_b8
              simp only [pairM_ok, Res.bind_ok, getM_some]
              rw [Z.outcomes hs hm]
              simp only [pairM_ok, Res.bind_ok]
              unfold m_is_spoilt
              rw [lcB_map (fun p : Int × Int => decide (p.2 ∈ bad) || ltB R n p.1) (Nat.lt_of_le_of_lt Z.outs_len (by decide)) (fun p hp => Z.lthan h p.2 (Z.outs_t hs hm p hp)), anyM_ok, List.any_map, notM_ok, bif_eq]
              show (if (!(outs T I d s m).any fun p => decide (p.2 ∈ bad) || ltB R n p.1) = true then _ else _) = _
              cases (outs T I d s m).any fun p => decide (p.2 ∈ bad) || ltB R n p.1 <;> rfl
  · rw [decide_eq_false h]; rfl
/-! ### the moves are asked for -/
theorem WF.cmoves : m_check_moves T d M = if usable T I d S M = true then .ok () else .exc 1 [] := by
  have s12 := Z.s12
  unfold m_check_moves usable
  rw [lenM_ok, Res.bind_ok, Z.sc, Z.gate (fun _ => trivial)]
  by_cases h : M.length = S
  · rw [decide_eq_true h, Bool.true_and, Bool.true_and]
    cases isS M 0 with
    | false => rfl
    | true =>
      rw [if_pos rfl, Bool.true_and, Res.bind_ok, forM_exc (c := 1) (fs := []) (fun x : Option Int => match x with | none => true | some m => okm d m)]
      · have eM : M = (rgL 0 S).map (gx M) := by
          apply gx_ext (by rw [List.length_map, rgL_length, h])
          intro i hi
          rw [gx_map (by omega) (by rw [rgL_length]; omega), gx_rgL (by omega) (by omega), Int.zero_add]
        by_cases ha : (M.all fun x : Option Int => match x with | none => true | some m => okm d m) = true
        · rw [if_pos ha, Res.bind_ok, enumM_ok, enumL_eq, h, Res.bind_ok]
          have hok : ∀ s : Int, 0 ≤ s ∧ s < S → ∀ m, gx M s = some m → okm d m = true := fun s hs m e => by
            rw [List.all_eq_true] at ha
            have := ha (gx M s) (gx_mem hs.1 (by rw [h]; exact hs.2))
            rw [e] at this
            exact this
          rw [forM_exc (c := 1) (fs := []) (fun x : Int × Option Int => on M (usB T I d M) x.1), List.all_map]
          · show Res.bind (if (rgL 0 S).all (on M (usB T I d M)) = true then _ else _) _ = _
            cases (rgL 0 S).all (on M (usB T I d M)) <;> rfl
          · intro x hx
            obtain ⟨s, hs, rfl⟩ := List.mem_map.mp hx
            have hs := mem_rgL.mp hs
            have hs : 0 ≤ s ∧ s < (S : Int) := ⟨hs.1, by omega⟩
            unfold m_check_moves_b9
            dsimp only
            rw [notNM_ok, bif_eq]
            cases e : gx M s with
            | none => rw [on_none e]; rfl
            | some m =>
              rw [on_some e]
              have ek := hok s hs m e
              simp only [pairM_ok, Res.bind_ok, getM_some, Option.isSome_some, if_true]
              unfold usB
              rw [ek, Bool.true_and, Z.outcomes hs (okm_iff.mp ek), Res.bind_ok, forM_exc (c := 1) (fs := []) (fun p : Int × Int => isS M p.1)]
              · cases (outs T I d s m).all fun p => isS M p.1 <;> rfl
              · rintro ⟨t, a⟩ hp
                have ht := Z.outs_t hs (okm_iff.mp ek) _ hp
                unfold m_check_moves_b8
                dsimp only at ht ⊢
                rw [idxM_gx ht.1 (by rw [h]; exact ht.2), isNM_ok, bif_eq]
                unfold isS
                cases gx M t <;> rfl
        · rw [if_neg ha, if_neg]
          · rfl
          · intro hu
            apply ha
            rw [eM, List.all_map]
            rw [List.all_eq_true] at hu ⊢
            intro s hs
            have := hu s hs
            show (match gx M s with | none => true | some m => okm d m) = true
            cases e : gx M s with
            | none => rfl
            | some m =>
              rw [on_some e] at this
              unfold usB at this
              rw [Bool.and_eq_true] at this
              exact this.1
      · intro x hx
        unfold m_check_moves_b10
        try dsimp only
        rw [notNM_ok, andM_ok]
        cases x with
        | none => rfl
        | some m =>
          simp only [pairM_ok, Res.bind_ok, getM_some, Option.isSome_some, if_true]
          rw [Z.ismove, notM_ok, bif_eq]
          have key : ∀ b : Bool, (if (!b) = true then (Res.exc 1 [] : Res Unit) else .ok ()) = if b = true then .ok () else .exc 1 [] := by intro b; cases b <;> rfl
          exact key (okm d m)
  · rw [decide_eq_false h]; rfl
end
end G94

namespace G94
open PySem L2 Mw
/-- the dict of places -/
def pl : Int → List Int → List (Int × Int)
  | _, [] => []
  | k, s :: l => (s, k) :: pl (k + 1) l
theorem pl_len : ∀ (k : Int) (l : List Int), (pl k l).length = l.length
  | _, [] => rfl
  | k, s :: l => by simp [pl, pl_len (k + 1) l]
theorem pl_keys : ∀ (k : Int) (l : List Int), (pl k l).map (·.1) = l
  | _, [] => rfl
  | k, s :: l => by simp [pl, pl_keys (k + 1) l]
theorem pl_app : ∀ (k : Int) (l : List Int) (s : Int), pl k (l ++ [s]) = pl k l ++ [(s, k + (l.length : Int))]
  | k, [], s => by simp [pl]
  | k, x :: l, s => by
    have := pl_app (k + 1) l s
    simp only [List.cons_append, pl, this, List.length_cons]
    rw [show k + 1 + (l.length : Int) = k + ((l.length + 1 : Nat) : Int) by omega]
theorem pl_put {l : List Int} {s : Int} (h : s ∉ l) (v : Int) : dput (pl 0 l) s v = pl 0 l ++ [(s, v)] := by
  unfold dput
  rw [if_neg]
  rw [List.any_eq_true]
  rintro ⟨p, hp, e⟩
  have : p.1 ∈ (pl 0 l).map (·.1) := List.mem_map.mpr ⟨p, hp, rfl⟩
  rw [pl_keys] at this
  rw [of_decide_eq_true e] at this
  exact h this
theorem pl_get : ∀ (k : Int) (l : List Int) (t : Int), t ∈ l → dget (pl k l) t = some (k + ((l.findIdx fun y => decide (y = t) : Nat) : Int))
  | k, x :: l, t, h => by
    unfold dget pl
    rw [List.find?_cons, List.findIdx_cons]
    dsimp only
    by_cases e : x = t
    · rw [decide_eq_true e]; simp
    · rw [decide_eq_false e]
      have ht : t ∈ l := by
        rcases List.mem_cons.mp h with h | h
        · exact absurd h.symm e
        · exact h
      have := pl_get (k + 1) l t ht
      unfold dget at this
      dsimp only [cond_false]
      rw [this]
      congr 1
      omega
section
variable {T : Tb} {I d S O : Nat} {bad : List Int} (Z : WF T I d S O) {M : Ro}
def lefts (S : Nat) (M : Ro) : List Int := (rgL 0 S).filter (isS M)
def mv (M : Ro) (s : Int) : Int := (gx M s).getD 0
def driven (T : Tb) (I d S : Nat) (M : Ro) : Tb := (((I - d : Nat) : Int), T.2.1, (lefts S M).map fun s => (outs T I d s (mv M s)).map fun p => ((((lefts S M).findIdx fun y => decide (y = p.1) : Nat) : Int), p.2))
theorem lefts_mem {s : Int} : s ∈ lefts S M ↔ (0 ≤ s ∧ s < S) ∧ isS M s = true := by
  unfold lefts
  rw [List.mem_filter, mem_rgL, Int.zero_add]
theorem lefts_len : (lefts S M).length ≤ S := by
  unfold lefts
  exact Nat.le_trans (List.length_filter_le _ _) (by rw [rgL_length]; exact Nat.le_refl _)
theorem mv_some {s : Int} (h : isS M s = true) : gx M s = some (mv M s) := by
  unfold isS at h
  unfold mv
  cases e : gx M s with
  | none => rw [e] at h; cases h
  | some m => rfl
include Z
theorem WF.us_to (h : usable T I d S M = true) {s : Int} (hs : s ∈ lefts S M) : ∀ p ∈ outs T I d s (mv M s), p.1 ∈ lefts S M := by
  intro p hp
  have hs' := lefts_mem.mp hs
  have e := mv_some hs'.2
  have hu := Z.us_ok h hs'.1 e
  have hm := Z.us_mv h hs'.1 e
  unfold usB at hu
  rw [Bool.and_eq_true, List.all_eq_true] at hu
  exact lefts_mem.mpr ⟨Z.outs_t hs'.1 hm p hp, hu.2 p hp⟩
theorem WF.ldriven (h : usable T I d S M = true) : m_law_driven T d M = .ok (driven T I d S M) := by
  have s12 := Z.s12
  have hl := Z.us_len h
  have hll : (lefts S M).length ≤ S := lefts_len
  unfold m_law_driven
  rw [lenM_ok, hl, rng1_ok (by omega), lcB_filter (isS M) (by rw [rgL_length]; omega) (fun s hs => by
    have hs := mem_rgL.mp hs
    rw [idxM_gx hs.1 (by rw [hl]; omega), notNM_ok]; rfl), Res.bind_ok, Res.bind_ok, Res.bind_ok]
  rw [show (rgL 0 S).filter (isS M) = lefts S M from rfl, forM_app (fun s => (outs T I d s (mv M s)).map fun p => ((((lefts S M).findIdx fun y => decide (y = p.1) : Nat) : Int), p.2)) (by omega), Z.sub, Res.bind_ok, Res.bind_ok, Res.bind_ok, pairM_ok, pairM_ok]
  · rfl
  · intro s acc hs
    have hs' := lefts_mem.mp hs
    have e := mv_some hs'.2
    unfold m_law_driven_b9
    rw [idxM_gx hs'.1.1 (by rw [hl]; exact hs'.1.2), e, Res.bind_ok, getM_some]
    simp only [pairM_ok, Res.bind_ok]
    rw [Z.louts hs'.1 (Z.us_mv h hs'.1 e), Res.bind_ok, lcB_map (fun p => ((((lefts S M).findIdx fun y => decide (y = p.1) : Nat) : Int), p.2)) (Nat.lt_of_le_of_lt Z.outs_len (by decide)), Res.bind_ok]
    intro p hp
    have ht := Z.us_to h hs p hp
    have : indexM (.ok (lefts S M)) (.ok p.1) = .ok (((lefts S M).findIdx fun y => decide (y = p.1) : Nat) : Int) := by
      show (if (lefts S M).findIdx (fun y => decide (y = p.1)) < (lefts S M).length then Res.ok (((lefts S M).findIdx fun y => decide (y = p.1) : Nat) : Int) else .stuck) = _
      rw [if_pos (List.findIdx_lt_length_of_exists ⟨p.1, ht, by simp⟩)]
    rw [this, pairM_ok]
theorem WF.places : ∀ (n : Nat), n ≤ S → Mw.forM m_driven_table_b14 ((rgL 0 n).map fun i => (i, gx M i)) [] = .ok (pl 0 ((rgL 0 n).filter (isS M))) := by
  have s12 := Z.s12
  have app : ∀ {α S : Type} (f : α → S → Res S) (xs ys : List α) (s : S), Mw.forM f (xs ++ ys) s = (Mw.forM f xs s).bind fun s' => Mw.forM f ys s' := by
    intro α S f xs
    induction xs with
    | nil => intro ys s; rfl
    | cons x xs ih =>
      intro ys s
      show (f x s).bind _ = ((f x s).bind _).bind _
      cases f x s with
      | ok s' => exact ih ys s'
      | exc => rfl
      | stuck => rfl
  intro n
  induction n with
  | zero => intro _; rfl
  | succ n ih =>
    intro hn
    rw [rgL_succ, List.map_append, app, ih (by omega), Res.bind_ok, List.filter_append, Int.zero_add]
    have hlen : ((rgL 0 n).filter (isS M)).length ≤ n := Nat.le_trans (List.length_filter_le _ _) (by rw [rgL_length]; exact Nat.le_refl _)
    show (m_driven_table_b14 ((n : Int), gx M (n : Int)) (pl 0 ((rgL 0 n).filter (isS M)))).bind (fun s' => .ok s') = _
    unfold m_driven_table_b14
    dsimp only
    rw [notNM_ok, bif_eq]
    have es : (gx M (n : Int)).isSome = isS M (n : Int) := rfl
    rw [es]
    cases e : isS M (n : Int) with
    | false => rw [if_neg (by simp), Res.bind_ok, List.filter_cons_of_neg (by rw [e]; simp)]; simp
    | true =>
      rw [if_pos rfl, List.filter_cons_of_pos e, List.filter_nil, pl_app]
      unfold dputM
      have hb := lim_big
      rw [Res.bind_ok, Res.bind_ok, if_pos (by rw [pl_len]; omega), Res.bind_ok, pl_put, pl_len, Int.zero_add]
      intro hm
      have := mem_rgL.mp (List.mem_filter.mp hm).1
      omega
theorem WF.sdriven : m_driven_table T d M = if usable T I d S M = true then .ok (driven T I d S M) else .exc 1 [] := by
  have s12 := Z.s12
  unfold m_driven_table
  simp only [pairM_ok, Res.bind_ok]
  rw [Z.chk, Res.bind_ok, Z.cmoves]
  cases h : usable T I d S M with
  | false => rfl
  | true =>
    have hl := Z.us_len h
    have hll : (lefts S M).length ≤ S := lefts_len
    rw [if_pos rfl, if_pos rfl, Res.bind_ok, enumM_ok, enumL_eq, hl, Res.bind_ok, Z.places S (Nat.le_refl _), Res.bind_ok]
    rw [show (rgL 0 S).filter (isS M) = lefts S M from rfl, pl_keys, forM_app (fun s => (outs T I d s (mv M s)).map fun p => ((((lefts S M).findIdx fun y => decide (y = p.1) : Nat) : Int), p.2)) (by omega), Res.bind_ok]
    · have := Z.sub
      rw [Res.bind_ok] at this
      rw [this]
      rfl
    · intro s acc hs
      have hs' := lefts_mem.mp hs
      have e := mv_some hs'.2
      unfold m_driven_table_b13
      rw [idxM_gx hs'.1.1 (by rw [hl]; exact hs'.1.2), e, Res.bind_ok, getM_some]
      simp only [pairM_ok, Res.bind_ok]
      rw [Z.outcomes hs'.1 (Z.us_mv h hs'.1 e), Res.bind_ok, lcB_map (fun p => ((((lefts S M).findIdx fun y => decide (y = p.1) : Nat) : Int), p.2)) (Nat.lt_of_le_of_lt Z.outs_len (by decide)), Res.bind_ok]
      intro p hp
      have ht := Z.us_to h hs p hp
      unfold dgetM
      rw [Res.bind_ok, pl_get 0 _ _ ht, optM_some, pairM_ok, Int.zero_add]
/-! ### what the answers are worth -/
theorem WF.safe_ok (h : safe T I d S bad M = true) {s m : Int} (hs : 0 ≤ s ∧ s < S) (e : gx M s = some m) : saB T I d bad M s m = true := by
  unfold safe at h
  rw [Bool.and_eq_true, Bool.and_eq_true, List.all_eq_true] at h
  have := h.2.2 s (mem_rgL.mpr ⟨hs.1, by omega⟩)
  rw [on_some e] at this
  exact this
theorem WF.not_nog {R : Int → Bool} {s m : Int} (hm : 0 ≤ m ∧ m < ((2 ^ d : Nat) : Int)) (g : goodB T I d bad R s m = true) : nog T I d bad R s = false := by
  cases h : nog T I d bad R s with
  | false => rfl
  | true => rw [nog_iff.mp h m hm] at g; cases g
theorem WF.sound (h : safe T I d S bad M = true) : ∀ (k : Nat) (s : Int), 0 ≤ s ∧ s < S → isS M s = true → isS (Rn T I d S bad k) s = false
  | 0, s, hs, _ => by
    obtain ⟨n, rfl⟩ := Int.eq_ofNat_of_zero_le hs.1
    have hn : n < S := by omega
    unfold isS Rn
    rw [gx_nat (by simpa using hn)]
    simp
  | k + 1, s, hs, hm => by
    have e := mv_some hm
    have ok := Z.safe_ok h hs e
    unfold saB at ok
    rw [Bool.and_eq_true, List.all_eq_true] at ok
    have hmv := okm_iff.mp ok.1
    show isS (stp T I d S bad ((k + 1 : Nat) : Int) (Rn T I d S bad k)) s = false
    rw [stp_isS hs, WF.sound h k s hs hm, Bool.false_or]
    refine Z.not_nog hmv ?_
    unfold goodB
    rw [List.all_eq_true]
    intro p hp
    have hp2 := ok.2 p hp
    rw [Bool.and_eq_true] at hp2
    rw [WF.sound h k p.1 (Z.outs_t hs hmv p hp) hp2.2, hp2.1]; rfl
theorem WF.lost_ok {R : Ro} (h : lostB T I d S bad R = true) {s n : Int} (hs : 0 ≤ s ∧ s < S) (e : gx R s = some n) : spB T I d bad R s n = true := by
  unfold lostB at h
  rw [Bool.and_eq_true, Bool.and_eq_true, List.all_eq_true] at h
  have := h.2.2 s (mem_rgL.mpr ⟨hs.1, by omega⟩)
  rw [on_some e] at this
  exact this
theorem WF.complete {R : Ro} (h : lostB T I d S bad R = true) : ∀ (k : Nat) (s n : Int), 0 ≤ s ∧ s < S → gx R s = some n → n ≤ k → isS (Rn T I d S bad S) s = true
  | 0, s, n, hs, e, hn => by
    have := Z.lost_ok h hs e
    unfold spB at this
    rw [Bool.and_eq_true, decide_eq_true_eq] at this
    omega
  | k + 1, s, n, hs, e, hn => by
    have ok := Z.lost_ok h hs e
    unfold spB at ok
    rw [Bool.and_eq_true, decide_eq_true_eq, List.all_eq_true] at ok
    cases hc : isS (Rn T I d S bad S) s with
    | true => rfl
    | false =>
      have : s ∈ fallen T I d S bad (Rn T I d S bad S) := mem_fallen.mpr ⟨hs, hc, nog_iff.mpr fun m hm => by
        have hany := ok.2 m (mem_rgL.mpr ⟨hm.1, by omega⟩)
        rw [List.any_eq_true] at hany
        obtain ⟨p, hp, hb⟩ := hany
        have ht := Z.outs_t hs hm p hp
        cases hg : goodB T I d bad (isS (Rn T I d S bad S)) s m with
        | false => rfl
        | true =>
          unfold goodB at hg
          rw [List.all_eq_true] at hg
          have hg := hg p hp
          rw [Bool.and_eq_true, Bool.not_eq_true', Bool.not_eq_true'] at hg
          rw [hg.1, Bool.false_or] at hb
          unfold ltB at hb
          cases er : gx R p.1 with
          | none => rw [er] at hb; cases hb
          | some j =>
            rw [er] at hb
            have hj : j < n := of_decide_eq_true hb
            have := WF.complete h k p.1 j ht er (by omega)
            rw [hg.2] at this
            cases this⟩
      rw [(Z.lost (bad := bad)).2] at this
      cases this
theorem WF.right_lost {R : Ro} (h : lostB T I d S bad R = true) : isS (Rn T I d S bad S) 0 = true := by
  have s1 := Z.s1
  have h' := h
  unfold lostB at h'
  rw [Bool.and_eq_true, Bool.and_eq_true] at h'
  have e := mv_some h'.2.1
  exact Z.complete h (mv R 0).toNat 0 (mv R 0) ⟨by omega, by omega⟩ e (by omega)
theorem WF.right_safe (h : safe T I d S bad M = true) : isS (Rn T I d S bad S) 0 = false := by
  have s1 := Z.s1
  have h' := h
  unfold safe at h'
  rw [Bool.and_eq_true, Bool.and_eq_true] at h'
  exact Z.sound h S 0 ⟨by omega, by omega⟩ h'.2.1
theorem WF.movs_gx {R : Ro} {s : Int} (hs : 0 ≤ s ∧ s < S) : gx (movs T I d S bad R) s = if isS R s = true then none else (goods T I d bad (isS R) s).head? := by
  unfold movs
  rw [gx_map hs.1 (by rw [rgL_length]; exact hs.2), gx_rgL hs.1 hs.2, Int.zero_add]
theorem WF.movs_isS {s : Int} (hs : 0 ≤ s ∧ s < S) (h : isS (Rn T I d S bad S) s = false) : isS (movs T I d S bad (Rn T I d S bad S)) s = true := by
  have hf := (Z.lost (bad := bad)).2
  unfold isS
  rw [Z.movs_gx hs, h, if_neg (by simp)]
  cases hg : goods T I d bad (isS (Rn T I d S bad S)) s with
  | nil =>
    have : s ∈ fallen T I d S bad (Rn T I d S bad S) := mem_fallen.mpr ⟨hs, h, by unfold nog; rw [hg]; rfl⟩
    rw [hf] at this
    cases this
  | cons a b => rfl
theorem WF.movs_safe (h : isS (Rn T I d S bad S) 0 = false) : safe T I d S bad (movs T I d S bad (Rn T I d S bad S)) = true := by
  have s1 := Z.s1
  unfold safe
  rw [decide_eq_true (by unfold movs; rw [List.length_map, rgL_length]), Bool.true_and, Z.movs_isS ⟨by omega, by omega⟩ h, Bool.true_and, List.all_eq_true]
  intro s hs
  have hs := mem_rgL.mp hs
  have hs : 0 ≤ s ∧ s < (S : Int) := ⟨hs.1, by omega⟩
  cases e : gx (movs T I d S bad (Rn T I d S bad S)) s with
  | none => exact on_none e
  | some m =>
    rw [on_some e]
    rw [Z.movs_gx hs] at e
    split at e
    · cases e
    · have hm : m ∈ goods T I d bad (isS (Rn T I d S bad S)) s := List.mem_of_mem_head? e
      unfold goods at hm
      rw [List.mem_filter] at hm
      have hr := mem_rgL.mp hm.1
      have hr : 0 ≤ m ∧ m < ((2 ^ d : Nat) : Int) := ⟨hr.1, by omega⟩
      unfold saB
      rw [okm_iff.mpr hr, Bool.true_and, List.all_eq_true]
      intro p hp
      have hg := hm.2
      unfold goodB at hg
      rw [List.all_eq_true] at hg
      have hg := hg p hp
      rw [Bool.and_eq_true, Bool.not_eq_true' (isS _ _)] at hg
      rw [hg.1, Z.movs_isS (Z.outs_t hs hr p hp) hg.2]; rfl
theorem WF.Rn_spoilt : ∀ (k : Nat) (s n : Int), 0 ≤ s ∧ s < S → gx (Rn T I d S bad k) s = some n → 1 ≤ n ∧ n ≤ k ∧ ∀ m : Int, 0 ≤ m ∧ m < ((2 ^ d : Nat) : Int) → ∃ p ∈ outs T I d s m, p.2 ∈ bad ∨ ∃ j, gx (Rn T I d S bad k) p.1 = some j ∧ j < n
  | 0, s, n, hs, e => by
    obtain ⟨i, rfl⟩ := Int.eq_ofNat_of_zero_le hs.1
    have hn : i < S := by omega
    unfold Rn at e
    rw [gx_nat (by simpa using hn)] at e
    simp at e
  | k + 1, s, n, hs, e => by
    have keep : ∀ (t j : Int), 0 ≤ t ∧ t < S → gx (Rn T I d S bad k) t = some j → gx (Rn T I d S bad (k + 1)) t = some j := fun t j ht h => by
      show gx (stp T I d S bad ((k + 1 : Nat) : Int) (Rn T I d S bad k)) t = some j
      rw [stp_gx ht, if_neg]
      · exact h
      · unfold isS
        rw [h]; simp
    have e' : gx (stp T I d S bad ((k + 1 : Nat) : Int) (Rn T I d S bad k)) s = some n := e
    rw [stp_gx hs] at e'
    split at e'
    · rename_i hc
      rw [Bool.and_eq_true] at hc
      have en : ((k + 1 : Nat) : Int) = n := Option.some.inj e'
      refine ⟨by omega, by omega, fun m hm => ?_⟩
      have hg := nog_iff.mp hc.2 m hm
      unfold goodB at hg
      rw [List.all_eq_false] at hg
      obtain ⟨p, hp, hb⟩ := hg
      refine ⟨p, hp, ?_⟩
      have ht := Z.outs_t hs hm p hp
      by_cases hbad : p.2 ∈ bad
      · exact .inl hbad
      · right
        rw [decide_eq_false hbad] at hb
        have hi : isS (Rn T I d S bad k) p.1 = true := by
          cases h : isS (Rn T I d S bad k) p.1 with
          | true => rfl
          | false => rw [h] at hb; exact absurd rfl hb
        have ej := mv_some hi
        obtain ⟨h1, h2, _⟩ := WF.Rn_spoilt k p.1 _ ht ej
        exact ⟨_, keep p.1 _ ht ej, by omega⟩
    · obtain ⟨h1, h2, h3⟩ := WF.Rn_spoilt k s n hs e'
      refine ⟨h1, by omega, fun m hm => ?_⟩
      obtain ⟨p, hp, hb⟩ := h3 m hm
      refine ⟨p, hp, ?_⟩
      rcases hb with hb | ⟨j, h4, h5⟩
      · exact .inl hb
      · exact .inr ⟨j, keep p.1 j (Z.outs_t hs hm p hp) h4, h5⟩
theorem WF.Rn_lost (h : isS (Rn T I d S bad S) 0 = true) : lostB T I d S bad (Rn T I d S bad S) = true := by
  unfold lostB
  rw [decide_eq_true (Rn_len S), h, Bool.true_and, Bool.true_and, List.all_eq_true]
  intro s hs
  have hs := mem_rgL.mp hs
  have hs : 0 ≤ s ∧ s < (S : Int) := ⟨hs.1, by omega⟩
  cases e : gx (Rn T I d S bad S) s with
  | none => exact on_none e
  | some n =>
    rw [on_some e]
    obtain ⟨h1, h2, h3⟩ := Z.Rn_spoilt S s n hs e
    unfold spB
    rw [decide_eq_true h1, Bool.true_and, List.all_eq_true]
    intro m hm
    have hm := mem_rgL.mp hm
    obtain ⟨p, hp, hb⟩ := h3 m ⟨hm.1, by omega⟩
    rw [List.any_eq_true]
    refine ⟨p, hp, ?_⟩
    rcases hb with hb | ⟨j, h4, h5⟩
    · rw [decide_eq_true hb]; rfl
    · unfold ltB
      rw [h4]
      show (decide (p.2 ∈ bad) || decide (j < n)) = true
      rw [decide_eq_true h5, Bool.or_true]
end
end G94

namespace G94
open PySem L2 Mw
theorem isint (x : Int) : m_law_is_integer (some x) = .ok true := rfl
theorem same_table (t : Tb) : m_law_same_table t t = .ok true := by
  unfold m_law_same_table
  have e : Mw.forB m_law_same_table_b9 t.2.2 () = .ok (if t.2.2.all (fun _ => true) = true then .nx () else .rt false) := forB_all (fun _ => true) fun row _ => by
    unfold m_law_same_table_b9
    try dsimp only
    rw [Res.bind_ok, notM_ok, bif_eq, if_neg (by simp), Res.bind_ok, forB_all (fun _ => true), Res.bind_ok, elB]
    · rw [List.all_eq_true.mpr (fun _ _ => rfl)]; rfl
    · intro p _
      rfl
  simp only [Res.bind_ok, pairM_ok, someM_ok, isint]
  show Res.ite (.ok false) _ (Res.ite (.ok false) _ _) = _
  rw [bif_eq, if_neg (by simp), bif_eq, if_neg (by simp)]
  have e' := e
  rw [e', Res.bind_ok, elB, List.all_eq_true.mpr (fun _ _ => rfl), if_pos rfl, eqM_ok, decide_eq_true rfl]
theorem same_told (kind : Str) (M : Ro) (h : M.length ≤ 1000) : m_law_same_told (kind, M) kind M = .ok true := by
  unfold m_law_same_told
  have e0 : orM (notM (Res.bind (.ok (kind, M)) fun _ => .ok true)) (orM (neM (Res.bind (.ok (kind, M)) fun _ => .ok (2 : Int)) (.ok (2 : Int))) (orM (notM (Res.bind (Res.bind (.ok (kind, M)) fun a => .ok a.1) fun _ => .ok true)) (neM (Res.bind (.ok (kind, M)) fun a => .ok a.1) (.ok kind)))) = .ok false := by
    show Res.ok (!decide (kind = kind)) = _
    rw [decide_eq_true rfl]; rfl
  have e1 : orM (notM (Res.bind (Res.bind (.ok (kind, M)) fun a => .ok a.2) fun _ => .ok true)) (neM (lenM (Res.bind (.ok (kind, M)) fun a => .ok a.2)) (lenM (.ok M))) = .ok false := by
    show Res.ok (!decide ((M.length : Int) = (M.length : Int))) = _
    rw [decide_eq_true rfl]; rfl
  rw [e0, bif_eq, if_neg (by simp), e1, bif_eq, if_neg (by simp), lenM_ok, rng1_ok (by omega), Res.bind_ok, forB_all (fun _ => true), Res.bind_ok, elB, List.all_eq_true.mpr (fun _ _ => rfl)]
  · rfl
  · intro k hk
    have hk := mem_rgL.mp hk
    unfold m_law_same_told_b7
    simp only [Res.bind_ok]
    rw [idxM_gx hk.1 (by omega), isNM_ok, notNM_ok, Res.bind_ok, bif_eq, neM_ok, decide_eq_true rfl]
    cases gx M k with
    | none => rfl
    | some x => rfl
theorem passed_ok (bad : List Int) (M : Ro) : consM (.ok (bad.map some)) (consM (.ok M) (.ok [])) = .ok [bad.map some, M] := rfl
theorem optM_all (bad : List Int) : (optM (allSome (bad.map some)) : Res (List Int)) = .ok bad := by rw [allSome_map]; rfl
section
variable {T : Tb} {I d S O : Nat} {bad : List Int} (Z : WF T I d S O) {M : Ro}
include Z
theorem WF.right_moves : m_law_right_moves T d bad M (isS (Rn T I d S bad S) 0) = .ok true := by
  unfold m_law_right_moves
  simp (config := { implicitDefEqProofs := false }) only [Res.bind_ok, pairM_ok]
  rw [passed_ok, Res.bind_ok]
  have a0 : idxM (.ok [bad.map some, M]) (.ok (0 : Int)) = .ok (bad.map some) := by rw [idxM_gx (by decide) (by simp)]; rfl
  have a1 : idxM (.ok [bad.map some, M]) (.ok (1 : Int)) = .ok M := by rw [idxM_gx (by decide) (by simp)]; rfl
  rw [a0, a1, Res.bind_ok, optM_all]
  simp (config := { implicitDefEqProofs := false }) only [Res.bind_ok, pairM_ok]
  rw [Z.ssafe, Res.bind_ok, Z.lsafe, neM_ok, neM_ok, decide_eq_true rfl, decide_eq_true rfl]
  show Res.ite (.ok false) _ _ = _
  rw [bif_eq, if_neg (by simp), andM_ok]
  have en : (if safe T I d S bad M = true then (Res.ok (isS (Rn T I d S bad S) 0)) else .ok false) = .ok false := by
    by_cases h : safe T I d S bad M = true
    · rw [if_pos h, Z.right_safe h]
    · rw [if_neg h]
  rw [en, bif_eq, if_neg (by simp), Z.lusable, notM_ok, bif_eq]
  have hd := Z.sdriven (M := M)
  cases hu : usable T I d S M with
  | true =>
    rw [hu, if_pos rfl] at hd
    rw [Bool.not_true, if_neg (by simp), hd, Z.ldriven hu, pairM_ok, Res.bind_ok, same_table]
  | false =>
    rw [hu, if_neg (by simp)] at hd
    rw [Bool.not_false, if_pos rfl]
    unfold m_law_error
    simp (config := { implicitDefEqProofs := false }) only [pairM_ok, Res.bind_ok]
    rw [hd, eqM_ok, bif_eq, if_neg (by decide), eqM_ok, bif_eq, if_neg (by decide), eqM_ok, bif_eq, if_neg (by decide), Res.bind_exc, tryM_exc]
    unfold errM
    rw [if_pos ⟨by decide, rfl⟩, eqM_ok]
    have e1 : firstT ((fun k : Nat => [decide (k = 0), decide (k = 1)]) 1) = 1 := by decide
    rw [e1]
    rfl
theorem WF.right_rounds : m_law_right_rounds T d bad M (isS (Rn T I d S bad S) 0) = .ok true := by
  unfold m_law_right_rounds
  simp (config := { implicitDefEqProofs := false }) only [Res.bind_ok, pairM_ok]
  rw [passed_ok, Res.bind_ok]
  have a0 : idxM (.ok [bad.map some, M]) (.ok (0 : Int)) = .ok (bad.map some) := by rw [idxM_gx (by decide) (by simp)]; rfl
  have a1 : idxM (.ok [bad.map some, M]) (.ok (1 : Int)) = .ok M := by rw [idxM_gx (by decide) (by simp)]; rfl
  rw [a0, a1, Res.bind_ok, optM_all]
  simp (config := { implicitDefEqProofs := false }) only [Res.bind_ok, pairM_ok]
  rw [Z.slost, Res.bind_ok, Z.llost, neM_ok, neM_ok, decide_eq_true rfl, decide_eq_true rfl]
  show Res.ite (.ok false) _ _ = _
  rw [bif_eq, if_neg (by simp), orM_ok, notM_ok]
  cases h : lostB T I d S bad M with
  | true => rw [Z.right_lost h]; rfl
  | false => cases isS (Rn T I d S bad S) 0 <;> rfl
theorem WF.wrong {w : Int} (hw : w < 0 ∨ (I : Int) < w) (which : Int) (items : Ro) : m_law_error which T w bad items = .ok 0 := by
  have hc : m_check_driver T w = .exc 0 [] := by
    unfold m_check_driver
    rw [Res.bind_ok, Z.hI]
    have e : chainM (fun i j => decide (i ≤ j)) (fun i j => decide (i ≤ j)) (.ok (0 : Int)) (.ok w) (.ok (I : Int)) = .ok false := by
      show (if decide ((0 : Int) ≤ w) = true then Res.ok (decide (w ≤ (I : Int))) else .ok false) = _
      by_cases h : 0 ≤ w
      · rw [if_pos (decide_eq_true h), decide_eq_false (by omega)]
      · rw [if_neg (by simpa using h)]
    rw [e]; rfl
  unfold m_law_error m_play_game m_shows_safe m_shows_lost m_driven_table
  simp (config := { implicitDefEqProofs := false }) only [pairM_ok, Res.bind_ok]
  rw [hc]
  simp only [Res.bind_exc, eqM_ok, bif_eq]
  by_cases h0 : which = 0
  · rw [if_pos (decide_eq_true h0)]; rfl
  · rw [if_neg (by simpa using h0)]
    by_cases h1 : which = 1
    · rw [if_pos (decide_eq_true h1)]; rfl
    · rw [if_neg (by simpa using h1)]
      by_cases h2 : which = 2
      · rw [if_pos (decide_eq_true h2)]; rfl
      · rw [if_neg (by simpa using h2)]; rfl
end
theorem changed {M : Ro} (h0 : 0 < M.length) (h1 : M.length ≤ 1000) (which place one : Int) : ∃ M' : Ro, m_law_changed M which place one = .ok M' ∧ M'.length ≤ 1001 := by
  have hb := lim_big
  have hset : ∀ (xs : Ro) (i : Int) (y : Option Int) (mk : Ro → Res Ro), xs.length = M.length → 0 ≤ i → i < M.length → (∀ ys : Ro, ys.length = M.length → ∃ M' : Ro, mk ys = .ok M' ∧ M'.length ≤ 1001) → ∃ M' : Ro, setM xs (.ok i) (.ok y) mk = .ok M' ∧ M'.length ≤ 1001 := fun xs i y mk hx a b k => by
    rw [setM_ok a (by omega)]
    exact k _ (by rw [List.length_set, hx])
  unfold m_law_changed
  simp only [Res.bind_ok]
  rw [lenM_ok, mod_ok (by omega), Res.bind_ok]
  have p0 : 0 ≤ place % (M.length : Int) := Int.emod_nonneg _ (by omega)
  have p1 : place % (M.length : Int) < M.length := Int.emod_lt_of_pos _ (by omega)
  generalize place % (M.length : Int) = at_ at p0 p1
  have j8 : ∀ xs : Ro, xs.length = M.length → ∃ M' : Ro, m_law_changed_j8 which one at_ xs = .ok M' ∧ M'.length ≤ 1001 := fun xs hx => by
    unfold m_law_changed_j8
    simp only [eqM_ok, bif_eq, negM_ok, someM_ok]
    split
    · refine ⟨_, by rw [sliceM_ok], ?_⟩
      unfold cutL
      have := List.length_take_le (HT.sIx xs.length xs.length (some (-1)) - HT.sIx xs.length 0 none) (xs.drop (HT.sIx xs.length 0 none))
      have h2 : ((xs.drop (HT.sIx xs.length 0 none)).take (HT.sIx xs.length xs.length (some (-1)) - HT.sIx xs.length 0 none)).length ≤ (xs.drop (HT.sIx xs.length 0 none)).length := by rw [List.length_take]; exact Nat.min_le_right _ _
      rw [List.length_drop] at h2
      omega
    · split
      · refine ⟨xs ++ [some one], ?_, by rw [List.length_append, List.length_singleton]; omega⟩
        show (if xs.length + [some one].length ≤ lim then Res.ok (xs ++ [some one]) else .stuck) = _
        rw [if_pos (by rw [List.length_singleton]; omega)]
      · split
        · exact hset _ _ _ _ hx p0 p1 fun ys hy => ⟨ys, rfl, by omega⟩
        · exact ⟨xs, rfl, by omega⟩
  have j6 : ∀ xs : Ro, xs.length = M.length → ∃ M' : Ro, m_law_changed_j6 which one at_ xs = .ok M' ∧ M'.length ≤ 1001 := fun xs hx => by
    unfold m_law_changed_j6
    simp only [eqM_ok, bif_eq]
    split
    · exact hset _ _ _ _ hx (by omega) (by omega) fun ys hy => j8 ys hy
    · exact j8 xs hx
  have j4 : ∀ xs : Ro, xs.length = M.length → ∃ M' : Ro, m_law_changed_j4 which one at_ xs = .ok M' ∧ M'.length ≤ 1001 := fun xs hx => by
    unfold m_law_changed_j4
    simp only [eqM_ok, bif_eq]
    split
    · exact hset _ _ _ _ hx p0 p1 fun ys hy => j6 ys hy
    · exact j6 xs hx
  simp only [eqM_ok, bif_eq]
  split
  · rw [someM_ok]
    exact hset _ _ _ _ rfl p0 p1 fun ys hy => j4 ys hy
  · exact j4 M rfl
/-! ### the drawing -/
theorem far (script : List Int) (hl : script.length ≤ 1000) {k : Int} (hk : 0 ≤ k ∧ k ≤ 1000000) : ∃ x, m_law_far script k = .ok x := by
  unfold m_law_far
  rw [lenM_ok, eqM_ok, bif_eq]
  split
  · exact ⟨_, by rw [mul_ok (by left; decide), addM_ok]⟩
  · rename_i h0
    have hp : 0 < script.length := by
      cases script with
      | nil => exact absurd rfl h0
      | cons a b => simp
    show ∃ x, Res.ite (.ok (decide (k < (script.length : Int)))) _ _ = .ok x
    rw [bif_eq]
    split
    · rename_i h1
      exact ⟨_, idxM_gx hk.1 (of_decide_eq_true h1)⟩
    · rw [Res.bind_ok, mod_ok (by omega), idxM_gx (Int.emod_nonneg _ (by omega)) (Int.emod_lt_of_pos _ (by omega)), mul_ok (by left; decide), addM_ok]
      exact ⟨_, rfl⟩
theorem parts (cell : Int) {sizes : List Int} (hl : sizes.length ≤ 1000) (hz : ∀ x ∈ sizes, 0 < x ∧ x < 1000000) : ∃ ps : List Int, m_law_parts cell sizes = .ok ps ∧ ps.length = sizes.length ∧ ∀ i : Int, 0 ≤ i ∧ i < sizes.length → 0 ≤ gx ps i ∧ gx ps i < gx sizes i := by
  have hb := lim_big
  unfold m_law_parts
  have ep : powM (.ok (10 : Int)) (.ok (18 : Int)) = .ok (10 ^ 18) := by
    have : cpow 10 18 = true := by decide
    show (if cpow 10 18 = true then Res.ok ((10 : Int) ^ (18 : Int).toNat) else .stuck) = _
    rw [if_pos this]; rfl
  rw [Res.bind_ok, ep, subM_ok, Res.bind_ok, lenM_ok, rng1_ok (by omega), Res.bind_ok]
  obtain ⟨⟨ps, rest⟩, e, h1, h2⟩ := forM_rng (f := m_law_parts_b11 cell sizes) (fun k (x : List Int × Int) => x.1.length = k ∧ ∀ i : Int, 0 ≤ i ∧ i < k → 0 ≤ gx x.1 i ∧ gx x.1 i < gx sizes i) (n := sizes.length) (s := ([], cell - 10 ^ 18)) ⟨rfl, fun i hi => by omega⟩ 0 fun k ⟨ps, rest⟩ hk ⟨h1, h2⟩ => by
    dsimp only at h1 h2
    have hs : 0 ≤ (0 : Int) + (k : Int) ∧ (0 : Int) + (k : Int) < sizes.length := ⟨by omega, by omega⟩
    have hz' := hz _ (gx_mem hs.1 hs.2)
    have put : ∀ y : Int, 0 ≤ y ∧ y < gx sizes (0 + (k : Int)) → (ps ++ [y]).length = k + 1 ∧ ∀ i : Int, 0 ≤ i ∧ i < ((k + 1 : Nat) : Int) → 0 ≤ gx (ps ++ [y]) i ∧ gx (ps ++ [y]) i < gx sizes i := fun y hy => by
      refine ⟨by rw [List.length_append, h1]; rfl, fun i hi => ?_⟩
      obtain ⟨n, rfl⟩ := Int.eq_ofNat_of_zero_le hi.1
      by_cases hn : n < k
      · have := h2 (n : Int) ⟨hi.1, by omega⟩
        rw [gx_nat (by rw [h1]; exact hn)] at this
        rw [gx_nat (by rw [List.length_append, h1]; omega), List.getElem_append_left (by rw [h1]; exact hn)]
        exact this
      · have en : n = k := by omega
        subst en
        rw [gx_nat (by rw [List.length_append, h1]; simp), List.getElem_append_right (by omega)]
        rw [Int.zero_add] at hy
        simpa [h1] using hy
    unfold m_law_parts_b11
    dsimp only
    show ∃ s', Res.ite (.ok (decide (rest ≥ 0))) _ _ = .ok s' ∧ _
    rw [bif_eq]
    split
    · rw [idxM_gx hs.1 hs.2, Res.bind_ok, mod_ok hz'.1, appM_ok _ _ _ (by rw [h1]; omega), fdiv_ok hz'.1 (by omega), Res.bind_ok]
      exact ⟨_, rfl, put _ ⟨Int.emod_nonneg _ (by omega), Int.emod_lt_of_pos _ hz'.1⟩⟩
    · rw [mul_ok (by right; decide), mul_ok (by right; decide), addM_ok, addM_ok, Res.bind_ok, mod_ok (by decide), Res.bind_ok]
      have m0 : 0 ≤ (cell * 48271 + (0 + (k : Int)) * 69621 + 11) % 2147483647 := Int.emod_nonneg _ (by decide)
      have m1 : (cell * 48271 + (0 + (k : Int)) * 69621 + 11) % 2147483647 < 2147483647 := Int.emod_lt_of_pos _ (by decide)
      generalize (cell * 48271 + (0 + (k : Int)) * 69621 + 11) % 2147483647 = q at m0 m1
      rw [mul_ok (by left; omega), mul_ok (by left; decide), addM_ok, addM_ok, Res.bind_ok, mod_ok (by decide), Res.bind_ok, idxM_gx hs.1 hs.2, Res.bind_ok, mod_ok hz'.1, appM_ok _ _ _ (by rw [h1]; omega)]
      exact ⟨_, rfl, put _ ⟨Int.emod_nonneg _ (by omega), Int.emod_lt_of_pos _ hz'.1⟩⟩
  dsimp only at h1 h2
  exact ⟨ps, by rw [e, Res.bind_ok], h1, h2⟩
end G94

namespace G94
open PySem L2 Mw
theorem pick {α : Type} (a b : α) (c : Bool) : idxM (consM (.ok a) (consM (.ok b) (.ok []))) (b2iM (.ok c)) = .ok (if c = true then b else a) := by cases c <;> rfl
theorem rep_ok (a b : Int) {n : Nat} (hn : n ≤ 1000) : ∃ xs : List Int, repM (consM (.ok a) (consM (.ok b) (.ok []))) (.ok (n : Int)) = .ok xs ∧ xs.length = 2 * n ∧ ∀ x ∈ xs, x = a ∨ x = b := by
  refine ⟨(List.replicate n [a, b]).flatten, ?_, ?_, ?_⟩
  · have hb := lim_big
    have h1 : (decide (-(2 ^ 63) ≤ (n : Int)) && decide ((n : Int) < 2 ^ 63) && decide (([a, b] : List Int).length * (n : Int).toNat ≤ lim)) = true := by
      have q1 : (-(2 ^ 63) : Int) ≤ 0 := by decide
      have q2 : (1001 : Int) < 2 ^ 63 := by decide
      rw [decide_eq_true (Int.le_trans q1 (by omega)), decide_eq_true (Int.lt_trans (by omega) q2), decide_eq_true]
      · rfl
      · rw [Int.toNat_natCast]; show 2 * n ≤ lim; omega
    unfold repM
    rw [consM_ok, consM_ok, Res.bind2_ok]
    unfold repF
    rw [if_pos h1, Int.toNat_natCast]
  · simp [Nat.mul_comm]
  · intro x hx
    rw [List.mem_flatten] at hx
    obtain ⟨l, hl, hx⟩ := hx
    rw [List.eq_of_mem_replicate hl] at hx
    simpa using hx
theorem rep_sizes {a b : Int} (ha : 0 < a ∧ a < 1000000) (hb : 0 < b ∧ b < 1000000) {xs : List Int} (h : ∀ x ∈ xs, x = a ∨ x = b) : ∀ x ∈ xs, 0 < x ∧ x < 1000000 := fun x hx => by
  rcases h x hx with e | e <;> rw [e]
  · exact ha
  · exact hb
def rowOk (I S : Nat) (r : List (Int × Int)) : Prop := r.length = 2 ^ I ∧ ∀ p ∈ r, (0 : Int) ≤ p.1 ∧ p.1 < (S : Int)
theorem two_le {I : Nat} (h : I ≤ 3) : 2 ^ I ≤ 8 := Nat.le_trans (Nat.pow_le_pow_right (by decide) h) (by decide)
theorem drawn {script : List Int} (hl : script.length ≤ 1000) {I d S O : Nat} (hI : I ≤ 3) (hd : d ≤ I) (hO : O ≤ 6) (hS : 0 < S ∧ S ≤ 12) : ∃ T : Tb, m_law_drawn script 1 (I : Int) (O : Int) (S : Int) = .ok T ∧ WF T I d S O := by
  have hb := lim_big
  have h8 := two_le hI
  unfold m_law_drawn
  rw [Res.bind_ok, rng1_ok (by omega), Res.bind_ok]
  obtain ⟨rows, e, h1, h2⟩ := forM_rng (f := m_law_drawn_b8 script 1 (I : Int) (O : Int) (S : Int)) (fun k (x : List (List (Int × Int))) => x.length = k ∧ ∀ r ∈ x, rowOk I S r) (n := S) (s := []) ⟨rfl, fun r hr => by cases hr⟩ 0 fun k rows hk ⟨h1, h2⟩ => by
    unfold m_law_drawn_b8
    rw [addM_ok, pairM_ok, Res.bind_ok]
    obtain ⟨x, ex⟩ := far script hl (k := 1 + (0 + (k : Int))) ⟨by omega, by omega⟩
    obtain ⟨zs, ez, hz1, hz2⟩ := rep_ok 64 64 (n := 2 ^ I) (by omega)
    obtain ⟨ps, ep, hp1, hp2⟩ := parts x (sizes := zs) (by omega) (rep_sizes ⟨by decide, by decide⟩ ⟨by decide, by decide⟩ hz2)
    rw [ex, shl1_ok (by omega), ez, pairM_ok, Res.bind_ok, ep, Res.bind_ok, rng1_ok (by omega)]
    have erow : lcB (fun (x4 : Int) => .ok true) (fun (x4 : Int) => (pairM (modM (Res.bind (idxM (.ok ps) (mulM (.ok (2 : Int)) (.ok x4))) .ok) (.ok (S : Int))) (modM (Res.bind (idxM (.ok ps) (addM (mulM (.ok (2 : Int)) (.ok x4)) (.ok (1 : Int)))) .ok) (shlM (.ok (1 : Int)) (.ok (O : Int)))))) (.ok (rgL 0 (2 ^ I)))
        = .ok ((rgL 0 (2 ^ I)).map fun i => (gx ps (2 * i) % (S : Int), gx ps (2 * i + 1) % ((2 ^ O : Nat) : Int))) := by
      refine lcB_map _ (by rw [rgL_length]; omega) fun i hi => ?_
      have hi := mem_rgL.mp hi
      have hpo : 0 < 2 ^ O := Nat.pow_pos (by decide)
      rw [mul_ok (by left; decide), addM_ok, idxM_gx (by omega) (by omega), idxM_gx (by omega) (by omega), Res.bind_ok, Res.bind_ok, mod_ok (by omega), shl1_ok (by omega), mod_ok (by omega), pairM_ok]
    rw [erow, Res.bind_ok, Res.bind_ok, appM_ok _ _ _ (by omega)]
    refine ⟨_, rfl, by rw [List.length_append, h1]; rfl, fun r hr => ?_⟩
    rcases List.mem_append.mp hr with hr | hr
    · exact h2 r hr
    · rw [List.mem_singleton.mp hr]
      refine ⟨by rw [List.length_map, rgL_length], fun p hp => ?_⟩
      obtain ⟨i, _, rfl⟩ := List.mem_map.mp hp
      exact ⟨Int.emod_nonneg _ (by omega), Int.emod_lt_of_pos _ (by omega)⟩
  rw [e, Res.bind_ok, Res.bind_ok, pairM_ok, pairM_ok]
  exact ⟨_, rfl, rfl, rfl, hI, hO, hd, h1, hS.1, hS.2, h2⟩
theorem WF.chained {T : Tb} {I d S O : Nat} (Z : WF T I d S O) (cell : Int) : ∃ T' : Tb, m_law_chained T (d : Int) cell = .ok T' ∧ WF T' I d S O := by
  have hb := lim_big
  have hI := Z.i3
  have hd := Z.dI
  have h8 := two_le hI
  have h8d := Z.two hd
  have s12 := Z.s12
  have hO := Z.o6
  unfold m_law_chained
  rw [Res.bind_ok, Res.bind_ok, lenM_ok, Z.hS, rng1_ok (by omega), Res.bind_ok]
  obtain ⟨rows, e, h1, h2⟩ := forM_rng (f := m_law_chained_b14 T (d : Int) cell) (fun k (x : List (List (Int × Int))) => x.length = k ∧ ∀ r ∈ x, rowOk I S r) (n := S) (s := []) ⟨rfl, fun r hr => by cases hr⟩ 0 fun k rows hk ⟨h1, h2⟩ => by
    have hs : 0 ≤ (0 : Int) + (k : Int) ∧ (0 : Int) + (k : Int) < S := ⟨by omega, by omega⟩
    have hrow : rowOk I S (gx T.2.2 (0 + (k : Int))) := Z.rowL hs
    have fin : ∀ r, rowOk I S r → ∃ s', m_law_chained_j6 rows r = .ok s' ∧ s'.length = k + 1 ∧ ∀ r ∈ s', rowOk I S r := fun r hr => by
      unfold m_law_chained_j6
      dsimp only
      rw [Res.bind_ok, appM_ok _ _ _ (by omega)]
      refine ⟨_, rfl, by rw [List.length_append, h1]; rfl, fun q hq => ?_⟩
      rcases List.mem_append.mp hq with hq | hq
      · exact h2 q hq
      · rw [List.mem_singleton.mp hq]; exact hr
    unfold m_law_chained_b14
    rw [Res.bind_ok, idxM_gx hs.1 (by rw [Z.hS]; exact hs.2), Res.bind_ok, Res.bind_ok, addM_ok, shl1_ok (by omega)]
    obtain ⟨zs, ez, hz1, hz2⟩ := rep_ok 8 64 (n := 2 ^ d) (by omega)
    obtain ⟨ps, ep, hp1, hp2⟩ := parts (cell + (0 + (k : Int))) (sizes := zs) (by omega) (rep_sizes ⟨by decide, by decide⟩ ⟨by decide, by decide⟩ hz2)
    rw [ez, pairM_ok, Res.bind_ok, ep, Res.bind_ok, addM_ok, lenM_ok, Z.hS]
    show ∃ s', Res.ite (.ok (decide (0 + (k : Int) + 1 < (S : Int)))) _ _ = .ok s' ∧ _
    rw [bif_eq]
    split
    · rename_i hlt
      have hlt : 0 + (k : Int) + 1 < (S : Int) := of_decide_eq_true hlt
      rw [rng1_ok (by omega), Res.bind_ok]
      obtain ⟨row, er, hr⟩ := forM_rng (f := m_law_chained_b12 T (d : Int) (0 + (k : Int)) ps) (fun _ r => rowOk I S r) (n := 2 ^ d) (s := gx T.2.2 (0 + (k : Int))) hrow 0 fun m r hm hr => by
        have hpi : 0 < 2 ^ (I - d) := Nat.pow_pos (by decide)
        have hpo : 0 < 2 ^ O := Nat.pow_pos (by decide)
        unfold m_law_chained_b12
        rw [mul_ok (by left; decide), idxM_gx (by omega) (by omega), Res.bind_ok, Z.sub, shl1_ok (by omega), mod_ok (by omega), Res.bind_ok]
        have o0 : 0 ≤ gx ps (2 * (0 + (m : Int))) % ((2 ^ (I - d) : Nat) : Int) := Int.emod_nonneg _ (by omega)
        have o1 : gx ps (2 * (0 + (m : Int))) % ((2 ^ (I - d) : Nat) : Int) < ((2 ^ (I - d) : Nat) : Int) := Int.emod_lt_of_pos _ (by omega)
        generalize gx ps (2 * (0 + (m : Int))) % ((2 ^ (I - d) : Nat) : Int) = o at o0 o1
        have hat := Z.at_lt (m := 0 + (m : Int)) (o := o) ⟨by omega, by omega⟩ ⟨o0, o1⟩
        rw [addM_ok, addM_ok, idxM_gx (by omega) (by omega), Res.bind_ok, Res.bind_ok, Z.hO, shl1_ok (d := O) (by omega), mod_ok (by omega), pairM_ok, shl1_ok (d := d) (by omega), mul_ok (by right; omega), addM_ok, setM_ok hat.1 (by rw [hr.1]; exact hat.2)]
        refine ⟨_, rfl, by rw [List.length_set]; exact hr.1, fun p hp => ?_⟩
        rcases List.mem_or_eq_of_mem_set hp with hp | rfl
        · exact hr.2 p hp
        · exact ⟨by dsimp only; omega, by dsimp only; omega⟩
      rw [er, Res.bind_ok]
      exact fin row hr
    · exact fin _ hrow
  rw [e, Res.bind_ok, Res.bind_ok, Res.bind_ok, Res.bind_ok, pairM_ok, pairM_ok]
  exact ⟨_, rfl, Z.hI, Z.hO, hI, hO, hd, h1, Z.s1, s12, h2⟩
end G94

namespace G94
open PySem L2 Mw
/-- a list of sizes that starts so -/
theorem catM_ok {α : Type} {xs ys : List α} (h : xs.length + ys.length ≤ 1000000) : catM (.ok xs) (.ok ys) = .ok (xs ++ ys) := by
  have hb := lim_big
  unfold catM
  rw [Res.bind2_ok]
  unfold catF
  rw [if_pos (by omega)]
theorem cut_len {α : Type} (xs : List α) (l h : Option Int) : (cutL xs l h).length ≤ xs.length := by
  unfold cutL
  rw [List.length_take, List.length_drop]
  omega
section
variable {T : Tb} {I d S O : Nat} {bad : List Int} (Z : WF T I d S O)
include Z
theorem WF.j32 (M : Ro) : m_law_j32 (d : Int) T bad (isS (Rn T I d S bad S) 0) M = .ok (.nx ()) := by
  unfold m_law_j32
  dsimp only
  rw [pairM_ok, pairM_ok, pairM_ok, pairM_ok, Res.bind_ok, Z.right_rounds, notM_ok, bif_eq, if_neg (by simp)]
theorem WF.j28 {ps : List Int} (hp : ps.length = 18) {k at_ : Int} (ha : 0 ≤ at_ ∧ at_ ≤ 12) (M : Ro) : m_law_j28 (d : Int) T bad (Rn T I d S bad S) (isS (Rn T I d S bad S) 0) ps k at_ M = .ok (.nx ()) := by
  have s12 := Z.s12
  unfold m_law_j28
  dsimp only
  rw [pairM_ok, pairM_ok, pairM_ok, pairM_ok, Res.bind_ok, Z.right_moves, notM_ok, bif_eq, if_neg (by simp)]
  rw [addM_ok, addM_ok, addM_ok, addM_ok, idxM_gx (by omega) (by omega), idxM_gx (by omega) (by omega), idxM_gx (by omega) (by omega), eqM_ok, pick, addM_ok, pairM_ok, pairM_ok, pairM_ok, Res.bind_ok]
  obtain ⟨M', e, hl⟩ := changed (M := Rn T I d S bad S) (by rw [Rn_len]; exact Z.s1) (by rw [Rn_len]; omega) (if decide (k = 0) = true then 0 else gx ps (at_ + 3)) (gx ps (at_ + 4)) (1 + gx ps (at_ + 2))
  rw [e, Res.bind_ok, idxM_gx (by omega) (by omega), eqM_ok, bif_eq]
  split
  · have el : lcB (fun (x34 : (Option Int)) => .ok true) (fun (x34 : (Option Int)) => (someM (addM (Res.bind (idxM (consM (.ok x34) (consM (someM (.ok (2 : Int))) (.ok []))) (b2iM (isNM (.ok x34)))) getM) (.ok (1 : Int))))) (.ok M') = .ok (M'.map fun x => some (x.getD 2 + 1)) := lcB_map _ (by omega) fun x _ => by
      rw [someM_ok, isNM_ok, pick]
      cases x <;> rfl
    rw [el, Res.bind_ok, Z.j32]
  · exact Z.j32 M'
theorem WF.b44 {ps : List Int} (hp : ps.length = 18) {k : Int} (hk : 0 ≤ k ∧ k ≤ 2) : m_law_b44 (d : Int) T bad (Rn T I d S bad S) (movs T I d S bad (Rn T I d S bad S)) (isS (Rn T I d S bad S) 0) ps k () = .ok (.nx ()) := by
  have s12 := Z.s12
  have s1 := Z.s1
  have hm : (movs T I d S bad (Rn T I d S bad S)).length = S := by unfold movs; rw [List.length_map, rgL_length]
  unfold m_law_b44
  try dsimp only
  rw [mul_ok (by left; decide), Res.bind_ok, addM_ok, addM_ok, addM_ok, idxM_gx (by omega) (by omega), idxM_gx (by omega) (by omega), idxM_gx (by omega) (by omega), eqM_ok, pick, pairM_ok, pairM_ok, pairM_ok, Res.bind_ok]
  obtain ⟨M', e, hl⟩ := changed (M := movs T I d S bad (Rn T I d S bad S)) (by omega) (by omega) (if decide (k = 0) = true then 0 else gx ps (6 * k)) (gx ps (6 * k + 1)) (gx ps (6 * k + 2))
  rw [e, Res.bind_ok, idxM_gx (by omega) (by omega), eqM_ok, bif_eq]
  split
  · have el : lcB (fun (x36 : (Option Int)) => .ok true) (fun (x36 : (Option Int)) => (idxM (consM (.ok x36) (consM (someM (.ok (0 : Int))) (.ok []))) (b2iM (isNM (.ok x36))))) (.ok M') = .ok (M'.map fun x => if x.isNone = true then some 0 else x) := lcB_map _ (by omega) fun x _ => by
      rw [someM_ok, isNM_ok, pick]
    rw [el, Res.bind_ok, Z.j28 hp ⟨by omega, by omega⟩]
  · exact Z.j28 hp ⟨by omega, by omega⟩ M'
theorem WF.b43 {w : Int} (hw : w < 0 ∨ (I : Int) < w) (which : Int) : m_law_b43 T bad w which () = .ok (.nx ()) := by
  have s12 := Z.s12
  unfold m_law_b43
  try dsimp only
  rw [Res.bind_ok, Res.bind_ok, someM_ok, lcB_map (fun _ => some (0 : Int)) (by rw [Z.hS]; omega) (fun _ _ => rfl), pairM_ok, pairM_ok, pairM_ok, pairM_ok, Res.bind_ok, Z.wrong hw, neM_ok, bif_eq, if_neg (by decide)]
theorem WF.j11 {script head : List Int} (hs : script.length ≤ 1000) (hb : bad.length ≤ 100) (hh : head.length = 13) (h12 : 0 ≤ gx head 12 ∧ gx head 12 < 9) : m_law_j11 script head (I : Int) (d : Int) T bad = .ok true := by
  have s12 := Z.s12
  have s1 := Z.s1
  have hbig := lim_big
  have hR : (Rn T I d S bad S).length = S := Rn_len S
  have hm : (movs T I d S bad (Rn T I d S bad S)).length = S := by unfold movs; rw [List.length_map, rgL_length]
  unfold m_law_j11
  dsimp only
  rw [pairM_ok, pairM_ok, Res.bind_ok]
  dsimp only
  rw [Z.lrounds, Res.bind_ok, pairM_ok, pairM_ok, pairM_ok, Res.bind_ok]
  dsimp only
  rw [Z.lmoves hR, Res.bind_ok, idxM_gx (by omega) (by omega), notNM_ok, Res.bind_ok, pick, Res.bind_ok, pick, Res.bind_ok, Res.bind_ok, Res.bind_ok, pairM_ok, pairM_ok, Res.bind_ok]
  dsimp only
  rw [Z.play, Res.bind_ok]
  rw [show (gx (Rn T I d S bad S) 0).isSome = isS (Rn T I d S bad S) 0 from rfl]
  have told : m_law_same_told (if isS (Rn T I d S bad S) 0 = true then ("lost", Rn T I d S bad S) else ("safe", movs T I d S bad (Rn T I d S bad S))) (if isS (Rn T I d S bad S) 0 = true then "lost" else "safe") (if isS (Rn T I d S bad S) 0 = true then Rn T I d S bad S else movs T I d S bad (Rn T I d S bad S)) = .ok true := by
    split
    · exact same_told _ _ (by omega)
    · exact same_told _ _ (by omega)
  simp (config := { implicitDefEqProofs := false }) only [pairM_ok, Res.bind_ok]
  have hl : (if isS (Rn T I d S bad S) 0 = true then (("lost" : Str), Rn T I d S bad S) else ("safe", movs T I d S bad (Rn T I d S bad S))).2.length < lim := by
    cases isS (Rn T I d S bad S) 0
    · show (movs T I d S bad (Rn T I d S bad S)).length < lim
      omega
    · show (Rn T I d S bad S).length < lim
      omega
  rw [told, neM_ok, notM_ok, decide_eq_true rfl, orM_ok, if_neg (by decide), bif_eq, if_neg (by decide), someM_ok, appM_ok _ _ _ hl, bif_eq, if_neg (by decide), Z.lsafe, Z.llost]
  have esafe : orM (andM (notM (.ok (isS (Rn T I d S bad S) 0))) (notM (.ok (safe T I d S bad (movs T I d S bad (Rn T I d S bad S)))))) (andM (.ok (isS (Rn T I d S bad S) 0)) (notM (.ok (lostB T I d S bad (Rn T I d S bad S))))) = .ok false := by
    cases h : isS (Rn T I d S bad S) 0 with
    | false => rw [Z.movs_safe h]; rfl
    | true => rw [Z.Rn_lost h]; rfl
  rw [esafe, bif_eq, if_neg (by decide)]
  obtain ⟨x, ex⟩ := far script hs (k := 14) ⟨by decide, by decide⟩
  have erep : ∃ zs : List Int, repM (consM (.ok (7 : Int)) (consM (.ok (12 : Int)) (consM (.ok (9 : Int)) (consM (.ok (7 : Int)) (consM (.ok (12 : Int)) (consM (.ok (4 : Int)) (.ok []))))))) (.ok (3 : Int)) = .ok zs ∧ zs.length = 18 ∧ ∀ x ∈ zs, 0 < x ∧ x < 1000000 := by
    refine ⟨[7, 12, 9, 7, 12, 4, 7, 12, 9, 7, 12, 4, 7, 12, 9, 7, 12, 4], ?_, rfl, by decide⟩
    have h1 : (decide (-(2 ^ 63) ≤ (3 : Int)) && decide ((3 : Int) < 2 ^ 63) && decide (([7, 12, 9, 7, 12, 4] : List Int).length * (3 : Int).toNat ≤ lim)) = true := by
      rw [decide_eq_true (by decide : (-(2 ^ 63) : Int) ≤ 3), decide_eq_true (by decide : (3 : Int) < 2 ^ 63), decide_eq_true]
      · rfl
      · show 18 ≤ lim; omega
    unfold repM
    simp only [consM_ok]
    rw [Res.bind2_ok]
    unfold repF
    rw [if_pos h1]
    rfl
  obtain ⟨zs, ez, hz1, hz2⟩ := erep
  obtain ⟨ps, ep, hp1, hp2⟩ := parts x (sizes := zs) (by omega) hz2
  rw [ex, ez, pairM_ok, Res.bind_ok, ep, Res.bind_ok]
  have r3 : rng1M (.ok (3 : Int)) = .ok (rgL 0 3) := rng1_ok (n := 3) (by decide)
  have r4 : rng1M (.ok (4 : Int)) = .ok (rgL 0 4) := rng1_ok (n := 4) (by decide)
  rw [r3, Res.bind_ok, forB_all (fun _ => true) (fun k hk => by
    have hk := mem_rgL.mp hk
    rw [Z.b44 (by omega) ⟨hk.1, by omega⟩]; rfl), Res.bind_ok, elB, List.all_eq_true.mpr (fun _ _ => rfl), if_pos rfl]
  rw [idxM_gx (by decide) (by omega), Res.bind_ok, mod_ok (by decide), negM_ok, subM_ok, addM_ok, addM_ok]
  have ew : ∃ w : Int, idxM (consM (.ok (-1 - gx head 12)) (consM (.ok ((I : Int) + 1 + gx head 12)) (.ok []))) (.ok (gx head 12 % 2)) = .ok w ∧ (w < 0 ∨ (I : Int) < w) := by
    rw [consM_ok, consM_ok, idxM_gx (xs := [-1 - gx head 12, (I : Int) + 1 + gx head 12]) (i := gx head 12 % 2) (Int.emod_nonneg _ (by decide)) (Int.emod_lt_of_pos _ (by decide : (0 : Int) < 2))]
    refine ⟨_, rfl, ?_⟩
    have : gx head 12 % 2 = 0 ∨ gx head 12 % 2 = 1 := by omega
    rcases this with e | e <;> rw [e]
    · left; show -1 - gx head 12 < 0; omega
    · right; show (I : Int) < (I : Int) + 1 + gx head 12; omega
  obtain ⟨w, ew, hw⟩ := ew
  rw [ew, Res.bind_ok, r4, Res.bind_ok, forB_all (fun _ => true) (fun k hk => by rw [Z.b43 hw]; rfl), Res.bind_ok, elB, List.all_eq_true.mpr (fun _ _ => rfl), if_pos rfl]
theorem WF.j7 {script head : List Int} (hs : script.length ≤ 1000) (hh : head.length = 13) (h12 : 0 ≤ gx head 12 ∧ gx head 12 < 9) : m_law_j7 script head (I : Int) (d : Int) T = .ok true := by
  have hO := Z.o6
  have hpo : 0 < 2 ^ O := Nat.pow_pos (by decide)
  unfold m_law_j7
  dsimp only
  rw [someM_ok, someM_ok, sliceM_ok, Res.bind_ok, Z.hO, shl1_ok (by omega)]
  have l1 := cut_len head (some 7) (some 11)
  generalize cutL head (some 7) (some 11) = xs at l1
  have el : lcB (fun (x8 : Int) => .ok true) (fun (x8 : Int) => (modM (Res.bind (.ok x8) .ok) (.ok ((2 ^ O : Nat) : Int)))) (.ok xs) = .ok (xs.map fun x => x % ((2 ^ O : Nat) : Int)) := lcB_map _ (by omega) fun x _ => by
    rw [Res.bind_ok, mod_ok (by omega)]
  rw [el, idxM_gx (by decide) (by omega), someM_ok, sliceM_ok, Res.bind_ok, idxM_gx (by decide) (by omega), eqM_ok, bif_eq]
  have l2 := cut_len (xs.map fun x => x % ((2 ^ O : Nat) : Int)) none (some (gx head 6))
  rw [List.length_map] at l2
  generalize cutL (xs.map fun x => x % ((2 ^ O : Nat) : Int)) none (some (gx head 6)) = ys at l2
  split
  · have l3 := cut_len ys none (some 1)
    rw [someM_ok, sliceM_ok, catM_ok (by omega), consM_ok, catM_ok (by rw [List.length_append, List.length_singleton]; omega), Res.bind_ok]
    exact Z.j11 hs (by rw [List.length_append, List.length_append, List.length_singleton]; omega) hh h12
  · exact Z.j11 hs (by omega) hh h12
end
theorem law_true (ns : List Int) (hl : ns.length ≤ 63) : m_law ns = .ok true := by
  unfold m_law
  obtain ⟨x, ex⟩ := far ns (by omega) (k := 0) ⟨by decide, by decide⟩
  obtain ⟨head, eh, hh, hb⟩ := parts x (sizes := [5, 4, 6, 10, 12, 3, 5, 64, 64, 64, 64, 4, 9]) (by decide) (by decide)
  have hh : head.length = 13 := hh
  rw [pairM_ok, Res.bind_ok, ex]
  simp only [consM_ok]
  rw [pairM_ok, Res.bind_ok, eh, Res.bind_ok]
  have b0 : 0 ≤ gx head 0 ∧ gx head 0 < 5 := hb 0 (by decide)
  have b1 : 0 ≤ gx head 1 ∧ gx head 1 < 4 := hb 1 (by decide)
  have b2 : 0 ≤ gx head 2 ∧ gx head 2 < 6 := hb 2 (by decide)
  have b4 : 0 ≤ gx head 4 ∧ gx head 4 < 12 := hb 4 (by decide)
  have b12 : 0 ≤ gx head 12 ∧ gx head 12 < 9 := hb 12 (by decide)
  rw [idxM_gx (by decide) (by omega), idxM_gx (xs := [0, 1, 2, 2, 3]) b0.1 b0.2, Res.bind_ok]
  have hI : ∀ y ∈ ([0, 1, 2, 2, 3] : List Int), 0 ≤ y ∧ y ≤ 3 := by decide
  have hI := hI _ (gx_mem (xs := [0, 1, 2, 2, 3]) b0.1 b0.2)
  generalize gx ([0, 1, 2, 2, 3] : List Int) (gx head 0) = i at hI
  obtain ⟨I, rfl⟩ := Int.eq_ofNat_of_zero_le hI.1
  rw [idxM_gx (by decide) (by omega), Res.bind_ok, addM_ok, mod_ok (by omega), Res.bind_ok]
  have d0 : 0 ≤ gx head 1 % ((I : Int) + 1) := Int.emod_nonneg _ (by omega)
  have d1 : gx head 1 % ((I : Int) + 1) < (I : Int) + 1 := Int.emod_lt_of_pos _ (by omega)
  generalize gx head 1 % ((I : Int) + 1) = dd at d0 d1
  obtain ⟨d, rfl⟩ := Int.eq_ofNat_of_zero_le d0
  rw [idxM_gx (by decide) (by omega), idxM_gx (by decide) (by omega), Res.bind_ok, eqM_ok]
  have hp := pick (6 : Int) 12 (decide (gx head 3 = 0))
  simp only [consM_ok] at hp
  rw [hp]
  have hs : ∃ S : Nat, addM (.ok 1) (modM (.ok (gx head 4)) (.ok (if decide (gx head 3 = 0) = true then (12 : Int) else 6))) = .ok (S : Int) ∧ 0 < S ∧ S ≤ 12 := by
    split
    · rw [mod_ok (by decide), addM_ok]
      exact ⟨(1 + gx head 4 % 12).toNat, by rw [Int.toNat_of_nonneg (by omega)], by omega, by omega⟩
    · rw [mod_ok (by decide), addM_ok]
      exact ⟨(1 + gx head 4 % 6).toNat, by rw [Int.toNat_of_nonneg (by omega)], by omega, by omega⟩
  obtain ⟨S, eS, hS⟩ := hs
  rw [eS, Res.bind_ok, idxM_gx (by decide) (by omega), addM_ok]
  obtain ⟨O, eO⟩ := Int.eq_ofNat_of_zero_le (show 0 ≤ 1 + gx head 2 by omega)
  rw [eO, pairM_ok, pairM_ok, pairM_ok, pairM_ok, Res.bind_ok]
  obtain ⟨T, eT, Z⟩ := drawn (script := ns) (by omega) (I := I) (d := d) (S := S) (O := O) (by omega) (by omega) (by omega) hS
  rw [eT, Res.bind_ok, idxM_gx (by decide) (by omega), eqM_ok, bif_eq]
  split
  · obtain ⟨y, ey⟩ := far ns (by omega) (k := 13) ⟨by decide, by decide⟩
    rw [pairM_ok, Res.bind_ok, ey, pairM_ok, pairM_ok, Res.bind_ok]
    obtain ⟨T', eT', Z'⟩ := Z.chained y
    rw [eT', Res.bind_ok]
    exact Z'.j7 (by omega) hh b12
  · exact Z.j7 (by omega) hh b12
end G94

namespace G94
open PySem PySem.Spec L2 Mw
theorem ok_state_count {P : Program} {w : World} {K : PySem.W.Frag} {mg : Str → Option Value} {base : Heap} {cl : Nat → Addr} {fa : Addr} {fd : FuncData} (F : Fun K "state_count" "state_count" s_state_count fa fd) (T : Txt K mg cl)  :
    FnOk P w K mg base (L2.CX P w) 1 fa fd ["table"] (spP K cl (rs1 (rP (rsC zI (rsC zI (rs1 (rT (rT (rP (rsC zI (rs1 zI)))))))))) zI (fun a => m_state_count a)) := by
  refine F.okX sc_state_count (fun vs H Q E h => ?_) (fun cdv A outer s H vs Q E hr h => ?_)
  · obtain ⟨G, a, _, hS, _⟩ := h
    exact ln1 _ _ _ _ hS
  · obtain ⟨G, p_table, hg, hS, hm⟩ := h
    obtain ⟨v_p_table, rfl, h_p_table⟩ := hS
    refine ⟨_, (pss_cons (ps_ret (pe_callB (r := rLen K) call_len (by rfl) T.n_len b_len (pa_cons (pe_ix (r := rIxT K) ix_tup (pv 0) (pe_glob (v := .int (2)) rfl T.c_ROWS.choose_spec ⟨_, rfl⟩) (fun _ _ => rfl)) pa_nil)))
     pss_nil), ?_⟩
    have hs : Hs ⟨H, G, E, cl⟩ G [] H := Hs.start hg
    have hm := Wp.ofSp (G0 := G) hm
    dsimp only at hm
    unfold m_state_count at hm
    refine (show (_ : TS) _ ([some v_p_table] : L2.St) _ from ?_)
    exact w_ret0 (K := K) (e_len sq_T (e_proj (k := 2) (pjS (pjS pj1)) (e_var (K := K) (i := 0) (R := (rP (rsC zI (rsC zI (rs1 (rT (rT (rP (rsC zI (rs1 zI)))))))))) (x := p_table) rfl h_p_table))) hs hm fun r v G2 H2 hs2 hr2 hq => hq v G2 H2 hs2.fin hr2

theorem ok_check_driver {P : Program} {w : World} {K : PySem.W.Frag} {mg : Str → Option Value} {base : Heap} {cl : Nat → Addr} {fa : Addr} {fd : FuncData} (F : Fun K "check_driver" "check_driver" s_check_driver fa fd) (T : Txt K mg cl)  :
    FnOk P w K mg base (L2.CX P w) 1 fa fd ["table", "driver_count"] (spP K cl (rsC (rP (rsC zI (rsC zI (rs1 (rT (rT (rP (rsC zI (rs1 zI))))))))) (rs1 zI)) rN (fun a => m_check_driver (a.1) (a.2))) := by
  refine F.okX sc_check_driver (fun vs H Q E h => ?_) (fun cdv A outer s H vs Q E hr h => ?_)
  · obtain ⟨G, a, _, hS, _⟩ := h
    exact (lnC ln1) _ _ _ _ hS
  · obtain ⟨G, ⟨p_table, p_driver_count⟩, hg, hS, hm⟩ := h
    obtain ⟨v_p_table, _, rfl, h_p_table, v_p_driver_count, rfl, h_p_driver_count⟩ := hS
    cases (show v_p_driver_count = V.int p_driver_count from h_p_driver_count)
    have tk : Takes (cxOf (L2.CX P w) P w K mg base N_check_driver "check_driver" (defScope s_check_driver) fa cdv A outer s H E) (fun cls d _ H => E cls d H) := takes_of rfl rfl rfl rfl
    refine ⟨_, (pss_cons (ps_if (pt_not (pt_chain op_le op_le pe_int (pv 1) (pe_ix (r := rIxT K) ix_tup (pv 0) pe_int (fun _ _ => rfl)))) (pss_cons (ps_raise rfl tk (pmk_own PySem.F.excBase_ValueError T.x_0 T.g_0 T.k_0 (raises_own T.b_0 T.t_0) (by exact rfl)))
     pss_nil) pss_nil)
     pss_nil), ?_⟩
    have hs : Hs ⟨H, G, E, cl⟩ G [] H := Hs.start hg
    have hm := Wp.ofSp (G0 := G) hm
    dsimp only at hm
    unfold m_check_driver at hm
    refine (show (_ : TS) _ ([some v_p_table, some (.int p_driver_count)] : L2.St) _ from ?_)
    refine w_if (t_not (t_test (K := K) (e_chain e_int (e_var (K := K) (i := 1) (R := zI) (x := p_driver_count) rfl rfl) (e_proj (k := 0) pj0 (e_var (K := K) (i := 0) (R := (rP (rsC zI (rsC zI (rs1 (rT (rT (rP (rsC zI (rs1 zI)))))))))) (x := p_table) rfl h_p_table))))) hs hm (fun G1 H1 e1 hs hm => ?_) (fun G1 H1 e1 hs hm => ?_)
    · have h_p_table := ((rP (rsC zI (rsC zI (rs1 (rT (rT (rP (rsC zI (rs1 zI)))))))))).mono e1 h_p_table
      exact hm.out _ none hs.fr rfl
    · have h_p_table := ((rP (rsC zI (rsC zI (rs1 (rT (rT (rP (rsC zI (rs1 zI)))))))))).mono e1 h_p_table
      refine nx_of ?_
      refine (show (_ : TS) _ ([some v_p_table, some (.int p_driver_count)] : L2.St) _ from ?_)
      exact hm.out .non _ _ hs.fin rfl

theorem ok_outcomes {P : Program} {w : World} {K : PySem.W.Frag} {mg : Str → Option Value} {base : Heap} {cl : Nat → Addr} {fa : Addr} {fd : FuncData} (F : Fun K "outcomes" "outcomes" s_outcomes fa fd) (T : Txt K mg cl)  :
    FnOk P w K mg base (L2.CX P w) 1 fa fd ["table", "driver_count", "state", "move"] (spP K cl (rsC (rP (rsC zI (rsC zI (rs1 (rT (rT (rP (rsC zI (rs1 zI))))))))) (rsC zI (rsC zI (rs1 zI)))) (rK (rP (rsC zI (rs1 zI)))) (fun a => m_outcomes (a.1) (a.2.1) (a.2.2.1) (a.2.2.2))) := by
  refine F.okX sc_outcomes (fun vs H Q E h => ?_) (fun cdv A outer s H vs Q E hr h => ?_)
  · obtain ⟨G, a, _, hS, _⟩ := h
    exact (lnC (lnC (lnC ln1))) _ _ _ _ hS
  · obtain ⟨G, ⟨p_table, p_driver_count, p_state, p_move⟩, hg, hS, hm⟩ := h
    obtain ⟨v_p_table, _, rfl, h_p_table, v_p_driver_count, _, rfl, h_p_driver_count, v_p_state, _, rfl, h_p_state, v_p_move, rfl, h_p_move⟩ := hS
    cases (show v_p_driver_count = V.int p_driver_count from h_p_driver_count)
    cases (show v_p_state = V.int p_state from h_p_state)
    cases (show v_p_move = V.int p_move from h_p_move)
    refine ⟨_, (pss_cons (ps_set (i := 4) sc_outcomes.nd rfl (by first | exact Or.inl rfl | exact Or.inr rfl) (pe_ix (r := rIxT K) ix_tup (pe_ix (r := rIxT K) ix_tup (pv 0) (pe_glob (v := .int (2)) rfl T.c_ROWS.choose_spec ⟨_, rfl⟩) (fun _ _ => rfl)) (pv 2) (fun _ _ => rfl)))
     (pss_cons (ps_ret (pe_lc (own := [("other", 5)]) rfl sc_outcomes.nd (pi_range1 rfl T.n_range (pa_cons (pe_op op_shl pe_int (pe_op op_sub (pe_ix (r := rIxT K) ix_tup (pv 0) pe_int (fun _ _ => rfl)) (pv 1))) pa_nil)) (blkOk_by (own := [("other", 5)]) (N := N_outcomes) (sc := defScope s_outcomes) (by decide +kernel)) (fun _ _ _ _ _ => (pg_name (i := 5) sc_outcomes.nd rfl (by first | exact Or.inl rfl | exact Or.inr rfl))) (fun _ _ _ _ _ => pts_nil) (fun _ _ _ _ _ => (pe_ix (r := rIxT K) ix_tup (pv 4) (pe_op op_add (pv 3) (pe_op op_shl (pv 5) (pv 1))) (fun _ _ => rfl)))))
     pss_nil)), ?_⟩
    have hs : Hs ⟨H, G, E, cl⟩ G [] H := Hs.start hg
    have hm := Wp.ofSp (G0 := G) hm
    dsimp only at hm
    unfold m_outcomes at hm
    refine (show (_ : TS) _ ([some v_p_table, some (.int p_driver_count), some (.int p_state), some (.int p_move), none, none] : L2.St) _ from ?_)
    refine w_asg (K := K) (tg_name (i := 4) (R := (rT (rP (rsC zI (rs1 zI)))))) (e_ixT (e_proj (k := 2) (pjS (pjS pj1)) (e_var (K := K) (i := 0) (R := (rP (rsC zI (rsC zI (rs1 (rT (rT (rP (rsC zI (rs1 zI)))))))))) (x := p_table) rfl h_p_table)) (e_var (K := K) (i := 2) (R := zI) (x := p_state) rfl rfl)) hs hm (fun p_row vv1 G1 H1 e1 hs hv1 hm => ?_)
    obtain ⟨v_p_row, rfl, h_p_row⟩ := hv1
    have h_p_table := ((rP (rsC zI (rsC zI (rs1 (rT (rT (rP (rsC zI (rs1 zI)))))))))).mono e1 h_p_table
    refine (show (_ : TS) _ ([some v_p_table, some (.int p_driver_count), some (.int p_state), some (.int p_move), some v_p_row, none] : L2.St) _ from ?_)
    exact w_ret0 (K := K) (EvN.evK (n_lc (S := (rP (rsC zI (rs1 zI)))) (i_rng1 (e_shl e_int (e_sub (e_proj (k := 0) pj0 (e_var (K := K) (i := 0) (R := (rP (rsC zI (rsC zI (rs1 (rT (rT (rP (rsC zI (rs1 zI)))))))))) (x := p_table) rfl h_p_table)) (e_var (K := K) (i := 1) (R := zI) (x := p_driver_count) rfl rfl)))) (fun _ h => nomatch h) (tg_name (i := 5) (R := zI)) (by decide) (fun x2 vs2 G2 e2 hv2 => by
     obtain ⟨v2_p_other, rfl, h2_p_other⟩ := hv2
     exact ⟨t_yes, (e_ixT (e_var (K := K) (i := 4) (R := (rT (rP (rsC zI (rs1 zI))))) (x := p_row) rfl (((rT (rP (rsC zI (rs1 zI))))).mono e2 h_p_row)) (e_add (e_var (K := K) (i := 3) (R := zI) (x := p_move) rfl rfl) (e_shl (e_var (K := K) (i := 5) (R := zI) (x := x2) rfl h2_p_other) (e_var (K := K) (i := 1) (R := zI) (x := p_driver_count) rfl rfl))))⟩))) hs hm fun r v G2 H2 hs2 hr2 hq => hq v G2 H2 hs2.fin hr2

theorem ok_holds {P : Program} {w : World} {K : PySem.W.Frag} {mg : Str → Option Value} {base : Heap} {cl : Nat → Addr} {fa : Addr} {fd : FuncData} (F : Fun K "holds" "holds" s_holds fa fd) (T : Txt K mg cl)  :
    FnOk P w K mg base (L2.CX P w) 1 fa fd ["pairs", "bad", "rounds"] (spP K cl (rsC (rK (rP (rsC zI (rs1 zI)))) (rsC (rK zI) (rs1 (rK (rO zI))))) rB (fun a => m_holds (a.1) (a.2.1) (a.2.2))) := by
  refine F.okX sc_holds (fun vs H Q E h => ?_) (fun cdv A outer s H vs Q E hr h => ?_)
  · obtain ⟨G, a, _, hS, _⟩ := h
    exact (lnC (lnC ln1)) _ _ _ _ hS
  · obtain ⟨G, ⟨p_pairs, p_bad, p_rounds⟩, hg, hS, hm⟩ := h
    obtain ⟨v_p_pairs, _, rfl, h_p_pairs, v_p_bad, _, rfl, h_p_bad, v_p_rounds, rfl, h_p_rounds⟩ := hS
    refine ⟨_, (pss_cons (ps_ret (pe_callB (r := rAll K) (cr_all rfl) (by rfl) T.n_all b_all (pa_cons (pe_lc (own := [("target", 3), ("answer", 4)]) rfl sc_holds.nd (pi_list (pv 0)) (blkOk_by (own := [("target", 3), ("answer", 4)]) (N := N_holds) (sc := defScope s_holds) (by decide +kernel)) (fun _ _ _ _ _ => (show PG _ _ (gTup K 2 _) from pg_tup rfl (pgs_cons (pg_name (i := 3) sc_holds.nd rfl (by first | exact Or.inl rfl | exact Or.inr rfl)) (pgs_cons (pg_name (i := 4) sc_holds.nd rfl (by first | exact Or.inl rfl | exact Or.inr rfl)) pgs_nil)))) (fun _ _ _ _ _ => pts_nil) (fun _ _ _ _ _ => (pe_and (pe_cmpR (r := rIn K true) op_notIn_seq (pv 4) (pv 1) (by rfl)) (pe_one (pe_cmpR op_isN (pe_ix (r := rIxL K) ix_list (pv 2) (pv 3) (fun _ _ => rfl)) pe_non (nomark _)))))) pa_nil)))
     pss_nil), ?_⟩
    have hs : Hs ⟨H, G, E, cl⟩ G [] H := Hs.start hg
    have hm := Wp.ofSp (G0 := G) hm
    dsimp only at hm
    unfold m_holds at hm
    refine (show (_ : TS) _ ([some v_p_pairs, some v_p_bad, some v_p_rounds, none, none] : L2.St) _ from ?_)
    exact w_ret0 (K := K) (e_all (e_KL (EvN.evK (n_lc (S := rB) (i_list (e_KL (e_var (K := K) (i := 0) (R := (rK (rP (rsC zI (rs1 zI))))) (x := p_pairs) rfl h_p_pairs))) (fun _ h => nomatch h) (tg_tup2) (by decide) (fun x1 vs1 G1 e1 hv1 => by
     obtain ⟨v1_p_target, _, rfl, h1_p_target, v1_p_answer, rfl, h1_p_answer⟩ := hv1
     exact ⟨t_yes, (e_and (e_nin srI sq_K (e_var (K := K) (i := 4) (R := zI) (x := x1.2) rfl h1_p_answer) (e_var (K := K) (i := 1) (R := (rK zI)) (x := p_bad) rfl (((rK zI)).mono e1 h_p_bad))) (e_isN (e_ixL (e_KL (e_var (K := K) (i := 2) (R := (rK (rO zI))) (x := p_rounds) rfl (((rK (rO zI))).mono e1 h_p_rounds))) (e_var (K := K) (i := 3) (R := zI) (x := x1.1) rfl h1_p_target))))⟩))))) hs hm fun r v G2 H2 hs2 hr2 hq => hq v G2 H2 hs2.fin hr2

theorem ok_good_moves {P : Program} {w : World} {K : PySem.W.Frag} {mg : Str → Option Value} {base : Heap} {cl : Nat → Addr} {fa : Addr} {fd : FuncData} (F : Fun K "good_moves" "good_moves" s_good_moves fa fd) (T : Txt K mg cl) (C_holds : Cal P w K mg base "holds" 1 ["pairs", "bad", "rounds"] (spP K cl (rsC (rK (rP (rsC zI (rs1 zI)))) (rsC (rK zI) (rs1 (rK (rO zI))))) rB (fun a => m_holds (a.1) (a.2.1) (a.2.2)))) (C_outcomes : Cal P w K mg base "outcomes" 1 ["table", "driver_count", "state", "move"] (spP K cl (rsC (rP (rsC zI (rsC zI (rs1 (rT (rT (rP (rsC zI (rs1 zI))))))))) (rsC zI (rsC zI (rs1 zI)))) (rK (rP (rsC zI (rs1 zI)))) (fun a => m_outcomes (a.1) (a.2.1) (a.2.2.1) (a.2.2.2)))) :
    FnOk P w K mg base (L2.CX P w) 2 fa fd ["table", "driver_count", "bad", "rounds", "state"] (spP K cl (rsC (rP (rsC zI (rsC zI (rs1 (rT (rT (rP (rsC zI (rs1 zI))))))))) (rsC zI (rsC (rK zI) (rsC (rK (rO zI)) (rs1 zI))))) (rK zI) (fun a => m_good_moves (a.1) (a.2.1) (a.2.2.1) (a.2.2.2.1) (a.2.2.2.2))) := by
  refine F.okX sc_good_moves (fun vs H Q E h => ?_) (fun cdv A outer s H vs Q E hr h => ?_)
  · obtain ⟨G, a, _, hS, _⟩ := h
    exact (lnC (lnC (lnC (lnC ln1)))) _ _ _ _ hS
  · obtain ⟨G, ⟨p_table, p_driver_count, p_bad, p_rounds, p_state⟩, hg, hS, hm⟩ := h
    obtain ⟨v_p_table, _, rfl, h_p_table, v_p_driver_count, _, rfl, h_p_driver_count, v_p_bad, _, rfl, h_p_bad, v_p_rounds, _, rfl, h_p_rounds, v_p_state, rfl, h_p_state⟩ := hS
    cases (show v_p_driver_count = V.int p_driver_count from h_p_driver_count)
    cases (show v_p_state = V.int p_state from h_p_state)
    refine ⟨_, (pss_cons (ps_set (i := 5) sc_good_moves.nd rfl (by first | exact Or.inl rfl | exact Or.inr rfl) (pe_callTy cr_range1 (by rfl) T.n_range b_range (pa_cons (pe_op op_shl pe_int (pv 1)) pa_nil)))
     (pss_cons (ps_ret (pe_lc (own := [("move", 6)]) rfl sc_good_moves.nd (pi_rngO (pv 5)) (blkOk_by (own := [("move", 6)]) (N := N_good_moves) (sc := defScope s_good_moves) (by decide +kernel)) (fun _ _ _ _ _ => (pg_name (i := 6) sc_good_moves.nd rfl (by first | exact Or.inl rfl | exact Or.inr rfl))) (fun _ _ _ _ _ => (pts_one (pt_val (pe_call (E := E0) C_holds.ok (hr.mono (by decide)) rfl C_holds.mgx C_holds.kp C_holds.bd .nil passL (pa_cons (pe_call (E := E0) C_outcomes.ok (hr.mono (by decide)) rfl C_outcomes.mgx C_outcomes.kp C_outcomes.bd .nil passL (pa_cons (pv 0) (pa_cons (pv 1) (pa_cons (pv 4) (pa_cons (pv 6) pa_nil))))) (pa_cons (pv 2) (pa_cons (pv 3) pa_nil))))))) (fun _ _ _ _ _ => (pv 6))))
     pss_nil)), ?_⟩
    have hs : Hs ⟨H, G, E, cl⟩ G [] H := Hs.start hg
    have hm := Wp.ofSp (G0 := G) hm
    dsimp only at hm
    unfold m_good_moves at hm
    refine (show (_ : TS) _ ([some v_p_table, some (.int p_driver_count), some v_p_bad, some v_p_rounds, some (.int p_state), none, none] : L2.St) _ from ?_)
    refine w_asg (K := K) (tg_name (i := 5) (R := rR)) (e_range1 (e_shl e_int (e_var (K := K) (i := 1) (R := zI) (x := p_driver_count) rfl rfl))) hs hm (fun p_moves vv1 G1 H1 e1 hs hv1 hm => ?_)
    obtain ⟨v_p_moves, rfl, h_p_moves⟩ := hv1
    have h_p_table := ((rP (rsC zI (rsC zI (rs1 (rT (rT (rP (rsC zI (rs1 zI)))))))))).mono e1 h_p_table
    have h_p_bad := ((rK zI)).mono e1 h_p_bad
    have h_p_rounds := ((rK (rO zI))).mono e1 h_p_rounds
    refine (show (_ : TS) _ ([some v_p_table, some (.int p_driver_count), some v_p_bad, some v_p_rounds, some (.int p_state), some v_p_moves, none] : L2.St) _ from ?_)
    exact w_ret0 (K := K) (EvN.evK (n_lc (S := zI) (i_rngO (e_var (K := K) (i := 5) (R := rR) (x := p_moves) rfl h_p_moves)) (fun _ h => nomatch h) (tg_name (i := 6) (R := zI)) (by decide) (fun x2 vs2 G2 e2 hv2 => by
     obtain ⟨v2_p_move, rfl, h2_p_move⟩ := hv2
     exact ⟨(t_val (K := K) (e_call (fm := ⟨H, G, E0, cl⟩) (a_cons (e_call (fm := ⟨H, G, E0, cl⟩) (a_cons (e_var (K := K) (i := 0) (R := (rP (rsC zI (rsC zI (rs1 (rT (rT (rP (rsC zI (rs1 zI)))))))))) (x := p_table) rfl (((rP (rsC zI (rsC zI (rs1 (rT (rT (rP (rsC zI (rs1 zI)))))))))).mono e2 h_p_table)) (a_cons (e_var (K := K) (i := 1) (R := zI) (x := p_driver_count) rfl rfl) (a_cons (e_var (K := K) (i := 4) (R := zI) (x := p_state) rfl rfl) (a_one (e_var (K := K) (i := 6) (R := zI) (x := x2) rfl h2_p_move)))))) (a_cons (e_var (K := K) (i := 2) (R := (rK zI)) (x := p_bad) rfl (((rK zI)).mono e2 h_p_bad)) (a_one (e_var (K := K) (i := 3) (R := (rK (rO zI))) (x := p_rounds) rfl (((rK (rO zI))).mono e2 h_p_rounds))))))), (e_var (K := K) (i := 6) (R := zI) (x := x2) rfl h2_p_move)⟩))) hs hm fun r v G2 H2 hs2 hr2 hq => hq v G2 H2 hs2.fin hr2

theorem ok_lost_rounds {P : Program} {w : World} {K : PySem.W.Frag} {mg : Str → Option Value} {base : Heap} {cl : Nat → Addr} {fa : Addr} {fd : FuncData} (F : Fun K "lost_rounds" "lost_rounds" s_lost_rounds fa fd) (T : Txt K mg cl) (C_state_count : Cal P w K mg base "state_count" 1 ["table"] (spP K cl (rs1 (rP (rsC zI (rsC zI (rs1 (rT (rT (rP (rsC zI (rs1 zI)))))))))) zI (fun a => m_state_count a))) (C_good_moves : Cal P w K mg base "good_moves" 2 ["table", "driver_count", "bad", "rounds", "state"] (spP K cl (rsC (rP (rsC zI (rsC zI (rs1 (rT (rT (rP (rsC zI (rs1 zI))))))))) (rsC zI (rsC (rK zI) (rsC (rK (rO zI)) (rs1 zI))))) (rK zI) (fun a => m_good_moves (a.1) (a.2.1) (a.2.2.1) (a.2.2.2.1) (a.2.2.2.2)))) :
    FnOk P w K mg base (L2.CX P w) 3 fa fd ["table", "driver_count", "bad"] (spPF K cl (rsC (rP (rsC zI (rsC zI (rs1 (rT (rT (rP (rsC zI (rs1 zI))))))))) (rsC zI (rs1 (rK zI)))) (fun H => (rF H (rO zI))) (fun a => m_lost_rounds (a.1) (a.2.1) (a.2.2))) := by
  refine F.okX sc_lost_rounds (fun vs H Q E h => ?_) (fun cdv A outer s H vs Q E hr h => ?_)
  · obtain ⟨G, a, _, hS, _⟩ := h
    exact (lnC (lnC ln1)) _ _ _ _ hS
  · obtain ⟨G, ⟨p_table, p_driver_count, p_bad⟩, hg, hS, hm⟩ := h
    obtain ⟨v_p_table, _, rfl, h_p_table, v_p_driver_count, _, rfl, h_p_driver_count, v_p_bad, rfl, h_p_bad⟩ := hS
    cases (show v_p_driver_count = V.int p_driver_count from h_p_driver_count)
    have tk : Takes (cxOf (L2.CX P w) P w K mg base N_lost_rounds "lost_rounds" (defScope s_lost_rounds) fa cdv A outer s H E) (fun cls d _ H => E cls d H) := takes_of rfl rfl rfl rfl
    refine ⟨_, (pss_cons (ps_set (i := 3) sc_lost_rounds.nd rfl (by first | exact Or.inl rfl | exact Or.inr rfl) (pe_lc (own := [("_", 9)]) rfl sc_lost_rounds.nd (pi_tup (pe_ix (r := rIxT K) ix_tup (pv 0) (pe_glob (v := .int (2)) rfl T.c_ROWS.choose_spec ⟨_, rfl⟩) (fun _ _ => rfl))) (blkOk_by (own := [("_", 9)]) (N := N_lost_rounds) (sc := defScope s_lost_rounds) (by decide +kernel)) (fun _ _ _ _ _ => (pg_name (i := 9) sc_lost_rounds.nd rfl (by first | exact Or.inl rfl | exact Or.inr rfl))) (fun _ _ _ _ _ => pts_nil) (fun _ _ _ _ _ => pe_non)))
     (pss_cons (ps_set (i := 4) sc_lost_rounds.nd rfl (by first | exact Or.inl rfl | exact Or.inr rfl) pe_int)
     (pss_cons (ps_set (i := 5) sc_lost_rounds.nd rfl (by first | exact Or.inl rfl | exact Or.inr rfl) pe_bl)
     (pss_cons (ps_while (passes_of rfl) (pt_val (pv 5)) (pss_cons (ps_aug (i := 4) sc_lost_rounds.nd rfl (by first | exact Or.inl rfl | exact Or.inr rfl) pe_int ip_add)
     (pss_cons (ps_setLc (i := 7) (own := [("state", 6)]) rfl sc_lost_rounds.nd rfl rfl (sw_true rfl rfl rfl (by decide +kernel)) (pi_range1 rfl T.n_range (pa_cons (pe_call (E := E) C_state_count.ok (hr.mono (by decide)) rfl C_state_count.mgx C_state_count.kp C_state_count.bd .nil (passes_call tk (fun _ _ _ _ h => h)) (pa_cons (pv 0) pa_nil)) pa_nil)) (blkOk_by (own := [("state", 6)]) (N := N_lost_rounds) (sc := defScope s_lost_rounds) (by decide +kernel)) (fun _ _ _ _ _ => (pg_name (i := 6) sc_lost_rounds.nd rfl (by first | exact Or.inl rfl | exact Or.inr rfl))) (fun _ _ _ _ _ => (pts_one (pt_cmpR op_isN (pe_ix (r := rIxL K) ix_list (pv 3) (pv 6) (fun _ _ => rfl)) pe_non (nomark _)))) (fun _ _ _ _ _ => (pv 6)))
     (pss_cons (ps_setLc (i := 8) (own := [("state", 6)]) rfl sc_lost_rounds.nd rfl rfl (sw_true rfl rfl rfl (by decide +kernel)) (pi_list (pv 7)) (blkOk_by (own := [("state", 6)]) (N := N_lost_rounds) (sc := defScope s_lost_rounds) (by decide +kernel)) (fun _ _ _ _ _ => (pg_name (i := 6) sc_lost_rounds.nd rfl (by first | exact Or.inl rfl | exact Or.inr rfl))) (fun _ _ _ _ _ => (pts_one (pt_not (show PT _ _ (tTr K _) from (pt_truth (pe_call (E := E0) C_good_moves.ok (hr.mono (by decide)) rfl C_good_moves.mgx C_good_moves.kp C_good_moves.bd .nil passL (pa_cons (pv 0) (pa_cons (pv 1) (pa_cons (pv 2) (pa_cons (pv 3) (pa_cons (pv 6) pa_nil)))))) (fun _ => rfl)))))) (fun _ _ _ _ _ => (pv 6)))
     (pss_cons (ps_for (passes_of rfl) rfl (pi_list (pv 8)) (pg_name (i := 6) sc_lost_rounds.nd rfl (by first | exact Or.inl rfl | exact Or.inr rfl)) (pss_cons (ps_asg (pv 4) (pg_sub (pv 3) (pv 6) set_list))
     pss_nil))
     (pss_cons (ps_set (i := 5) sc_lost_rounds.nd rfl (by first | exact Or.inl rfl | exact Or.inr rfl) (pe_cmpR op_gt (pe_callB (r := rLen K) call_len (by rfl) T.n_len b_len (pa_cons (pv 8) pa_nil)) pe_int (nomark _)))
     pss_nil))))))
     (pss_cons (ps_ret (pv 3))
     pss_nil))))), ?_⟩
    have hs : Hs ⟨H, G, E, cl⟩ G [] H := Hs.start hg
    have hm := Wp.ofSp (G0 := G) hm
    dsimp only at hm
    unfold m_lost_rounds at hm
    refine (show (_ : TS) _ ([some v_p_table, some (.int p_driver_count), some v_p_bad, none, none, none, none, none, none, none] : L2.St) _ from ?_)
    refine w_asgN (K := K) (R := (rO zI)) (i := 3) (n_lc (S := (rO zI)) (i_tup (e_proj (k := 2) (pjS (pjS pj1)) (e_var (K := K) (i := 0) (R := (rP (rsC zI (rsC zI (rs1 (rT (rT (rP (rsC zI (rs1 zI)))))))))) (x := p_table) rfl h_p_table))) (fun _ h => nomatch h) (tg_name (i := 9) (R := (rT (rP (rsC zI (rs1 zI)))))) (by decide) (fun x1 vs1 G1 e1 hv1 => by
     obtain ⟨v1_p_, rfl, h1_p_⟩ := hv1
     exact ⟨t_yes, (e_nonO (R := zI))⟩)) hs hm (fun p_rounds l_p_rounds vs_p_rounds G2 H2 e2 hs h2 hm => ?_)
    have h_p_table := ((rP (rsC zI (rsC zI (rs1 (rT (rT (rP (rsC zI (rs1 zI)))))))))).mono e2 h_p_table
    have h_p_bad := ((rK zI)).mono e2 h_p_bad
    have h_p_rounds := h2
    refine (show (_ : TS) _ ([some v_p_table, some (.int p_driver_count), some v_p_bad, some (.ref l_p_rounds), none, none, none, none, none, none] : L2.St) _ from ?_)
    refine w_asg (K := K) (tg_name (i := 4) (R := zI)) e_int hs hm (fun p_number vv3 G3 H3 e3 hs hv3 hm => ?_)
    obtain ⟨v_p_number, rfl, h_p_number⟩ := hv3
    cases (show v_p_number = V.int p_number from h_p_number)
    have h_p_table := ((rP (rsC zI (rsC zI (rs1 (rT (rT (rP (rsC zI (rs1 zI)))))))))).mono e3 h_p_table
    have h_p_bad := ((rK zI)).mono e3 h_p_bad
    have h_p_rounds := RLs.mono e3 h_p_rounds
    refine (show (_ : TS) _ ([some v_p_table, some (.int p_driver_count), some v_p_bad, some (.ref l_p_rounds), some (.int p_number), none, none, none, none, none] : L2.St) _ from ?_)
    refine w_asg (K := K) (tg_name (i := 5) (R := rB)) e_bl hs hm (fun p_changed vv4 G4 H4 e4 hs hv4 hm => ?_)
    obtain ⟨v_p_changed, rfl, h_p_changed⟩ := hv4
    cases (show v_p_changed = V.bl p_changed from h_p_changed)
    have h_p_table := ((rP (rsC zI (rsC zI (rs1 (rT (rT (rP (rsC zI (rs1 zI)))))))))).mono e4 h_p_table
    have h_p_bad := ((rK zI)).mono e4 h_p_bad
    have h_p_rounds := RLs.mono e4 h_p_rounds
    refine (show (_ : TS) _ ([some v_p_table, some (.int p_driver_count), some v_p_bad, some (.ref l_p_rounds), some (.int p_number), some (.bl p_changed), none, none, none, none] : L2.St) _ from ?_)
    refine w_whB (K := K) (Rr := (rF H (rO zI))) (fun (s : Int × (List (Option Int)) × Bool) (σ : L2.St) (G : Hp) (O : Own) => match s with | (p_number, p_rounds, p_changed) => ∃ (l_p_rounds : Addr) (vs_p_rounds : List V) (d_7 : Option V) (d_8 : Option V) (d_6 : Option V), σ = [some v_p_table, some (.int p_driver_count), some v_p_bad, some (.ref l_p_rounds), some (.int p_number), some (.bl p_changed), d_6, d_7, d_8, none] ∧ O = [(l_p_rounds, .lst vs_p_rounds)] ∧ RLs (rO zI) K G vs_p_rounds p_rounds) hs hm ⟨l_p_rounds, vs_p_rounds, none, none, none, rfl, rfl, h_p_rounds⟩ (fun _ _ _ _ _ _ _ h => h.elim) (fun s_ σ_ G1_5 G5 O_ e5 w_ e15 => ?_) (fun s_ σ_ G1_5 G5 O_ H5 D5 Qb5 e5 w_ e15 hs E5 hm => ?_) (fun s_ σ_ G1_5 G5 O_ H5 e5 w_ e15 hs hm => ?_)
    · obtain ⟨p_number, p_rounds, p_changed⟩ := s_
      obtain ⟨l_p_rounds, vs_p_rounds, d_7, d_8, d_6, rfl, rfl, h_p_rounds⟩ := w_
      have h_p_table := ((rP (rsC zI (rsC zI (rs1 (rT (rT (rP (rsC zI (rs1 zI)))))))))).mono e5 h_p_table
      have h_p_bad := ((rK zI)).mono e5 h_p_bad
      have h_p_rounds := RLs.mono e15 h_p_rounds
      exact (t_val (K := K) (e_var (K := K) (i := 5) (R := rB) (x := p_changed) rfl rfl))
    · obtain ⟨p_number, p_rounds, p_changed⟩ := s_
      obtain ⟨l_p_rounds, vs_p_rounds, d_7, d_8, d_6, rfl, rfl, h_p_rounds⟩ := w_
      have h_p_table := ((rP (rsC zI (rsC zI (rs1 (rT (rT (rP (rsC zI (rs1 zI)))))))))).mono e5 h_p_table
      have h_p_bad := ((rK zI)).mono e5 h_p_bad
      have h_p_rounds := RLs.mono e15 h_p_rounds
      have b5 := Same.refl G5
      refine (show (_ : TS) _ ([some v_p_table, some (.int p_driver_count), some v_p_bad, some (.ref l_p_rounds), some (.int p_number), some (.bl p_changed), d_6, d_7, d_8, none] : L2.St) _ from ?_)
      unfold m_lost_rounds_b17 at hm
      try dsimp only at hm
      refine w_aug (K := K) (i := 4) (f := fun i j => i + j) (x := p_number) rfl e_int hs hm (fun y6 G6 H6 e6 hs hm => ?_)
      have h_p_table := ((rP (rsC zI (rsC zI (rs1 (rT (rT (rP (rsC zI (rs1 zI)))))))))).mono e6 h_p_table
      have h_p_bad := ((rK zI)).mono e6 h_p_bad
      have h_p_rounds := RLs.mono e6 h_p_rounds
      have b5 := Same.trans b5 e6
      refine (show (_ : TS) _ ([some v_p_table, some (.int p_driver_count), some v_p_bad, some (.ref l_p_rounds), some (.int (p_number + y6)), some (.bl p_changed), d_6, d_7, d_8, none] : L2.St) _ from ?_)
      generalize p_number + y6 = p_number at hm ⊢
      refine w_asg (K := K) (tg_name (i := 7) (R := (rK zI))) (EvN.evK (n_lc (S := zI) (i_rng1 (e_call (fm := ⟨H, G, E, cl⟩) (a_one (e_var (K := K) (i := 0) (R := (rP (rsC zI (rsC zI (rs1 (rT (rT (rP (rsC zI (rs1 zI)))))))))) (x := p_table) rfl h_p_table)))) (fun _ h => nomatch h) (tg_name (i := 6) (R := zI)) (by decide) (fun x7 vs7 G7 e7 hv7 => by
       obtain ⟨v7_p_state, rfl, h7_p_state⟩ := hv7
       exact ⟨(t_test (K := K) (e_isN (e_ixO (i := 3) (l := l_p_rounds) rfl (List.mem_of_getElem? (i := 0) rfl) (RLs.mono e7 h_p_rounds) (e_var (K := K) (i := 6) (R := zI) (x := x7) rfl h7_p_state)))), (e_var (K := K) (i := 6) (R := zI) (x := x7) rfl h7_p_state)⟩))) hs hm (fun p_left vv8 G8 H8 e8 hs hv8 hm => ?_)
      obtain ⟨v_p_left, rfl, h_p_left⟩ := hv8
      have h_p_table := ((rP (rsC zI (rsC zI (rs1 (rT (rT (rP (rsC zI (rs1 zI)))))))))).mono e8 h_p_table
      have h_p_bad := ((rK zI)).mono e8 h_p_bad
      have h_p_rounds := RLs.mono e8 h_p_rounds
      have b5 := Same.trans b5 e8
      refine (show (_ : TS) _ ([some v_p_table, some (.int p_driver_count), some v_p_bad, some (.ref l_p_rounds), some (.int p_number), some (.bl p_changed), d_6, some v_p_left, d_8, none] : L2.St) _ from ?_)
      refine w_asg (K := K) (tg_name (i := 8) (R := (rK zI))) (EvN.evK (n_lend sc_I (l := l_p_rounds) (o := HO.lst vs_p_rounds) (List.mem_of_getElem? (i := 0) rfl) (n_lc (S := zI) (i_list (e_KL (e_var (K := K) (i := 7) (R := (rK zI)) (x := p_left) rfl (((rK zI)).mono (same_new (o := HO.lst vs_p_rounds) (hs.at 0 rfl).2.1) h_p_left)))) (fun _ h => nomatch h) (tg_name (i := 6) (R := zI)) (by decide) (fun x10 vs10 G10 e10 hv10 => by
       obtain ⟨v10_p_state, rfl, h10_p_state⟩ := hv10
       exact ⟨(t_not (t_truL (e_KL (e_call (fm := ⟨H, G, E0, cl⟩) (a_cons (e_var (K := K) (i := 0) (R := (rP (rsC zI (rsC zI (rs1 (rT (rT (rP (rsC zI (rs1 zI)))))))))) (x := p_table) rfl (((rP (rsC zI (rsC zI (rs1 (rT (rT (rP (rsC zI (rs1 zI)))))))))).mono e10 (((rP (rsC zI (rsC zI (rs1 (rT (rT (rP (rsC zI (rs1 zI)))))))))).mono (same_new (o := HO.lst vs_p_rounds) (hs.at 0 rfl).2.1) h_p_table))) (a_cons (e_var (K := K) (i := 1) (R := zI) (x := p_driver_count) rfl rfl) (a_cons (e_var (K := K) (i := 2) (R := (rK zI)) (x := p_bad) rfl (((rK zI)).mono e10 (((rK zI)).mono (same_new (o := HO.lst vs_p_rounds) (hs.at 0 rfl).2.1) h_p_bad))) (a_cons (e_own (i := 3) (l := l_p_rounds) (R := (rO zI)) rfl (e10 _ _ upd_same) (RLs.mono e10 (RLs.mono (same_new (o := HO.lst vs_p_rounds) (hs.at 0 rfl).2.1) h_p_rounds))) (a_one (e_var (K := K) (i := 6) (R := zI) (x := x10) rfl h10_p_state)))))))))), (e_var (K := K) (i := 6) (R := zI) (x := x10) rfl h10_p_state)⟩)))) hs hm (fun p_fallen vv11 G11 H11 e11 hs hv11 hm => ?_)
      obtain ⟨v_p_fallen, rfl, h_p_fallen⟩ := hv11
      have h_p_table := ((rP (rsC zI (rsC zI (rs1 (rT (rT (rP (rsC zI (rs1 zI)))))))))).mono e11 h_p_table
      have h_p_bad := ((rK zI)).mono e11 h_p_bad
      have h_p_rounds := RLs.mono e11 h_p_rounds
      have h_p_left := ((rK zI)).mono e11 h_p_left
      have b5 := Same.trans b5 e11
      refine (show (_ : TS) _ ([some v_p_table, some (.int p_driver_count), some v_p_bad, some (.ref l_p_rounds), some (.int p_number), some (.bl p_changed), d_6, some v_p_left, some v_p_fallen, none] : L2.St) _ from ?_)
      refine w_forM (K := K) (fun (p_rounds : (List (Option Int))) (σ : L2.St) (G : Hp) (O : Own) => ∃ (l_p_rounds : Addr) (vs_p_rounds : List V) (d_6 : Option V), σ = [some v_p_table, some (.int p_driver_count), some v_p_bad, some (.ref l_p_rounds), some (.int p_number), some (.bl p_changed), d_6, some v_p_left, some v_p_fallen, none] ∧ O = [(l_p_rounds, .lst vs_p_rounds)] ∧ RLs (rO zI) K G vs_p_rounds p_rounds) (i_list (e_KL (e_var (K := K) (i := 8) (R := (rK zI)) (x := p_fallen) rfl h_p_fallen))) (fun _ _ _ _ _ _ h => nomatch h) (tg_name (i := 6) (R := zI)) hs hm ⟨l_p_rounds, vs_p_rounds, d_6, rfl, rfl, h_p_rounds⟩ (fun p_state p_rounds σ_ G1_12 G12 O_ H12 vv12 D12 Qb12 e12 w_ e112 hs hv12 E12 hm => ?_) (fun p_rounds σ_ G1_12 G12 O_ H12 e12 w_ e112 hs hm => ?_)
      · obtain ⟨l_p_rounds, vs_p_rounds, d_6, rfl, rfl, h_p_rounds⟩ := w_
        have h_p_table := ((rP (rsC zI (rsC zI (rs1 (rT (rT (rP (rsC zI (rs1 zI)))))))))).mono e12 h_p_table
        have h_p_bad := ((rK zI)).mono e12 h_p_bad
        have h_p_left := ((rK zI)).mono e12 h_p_left
        have h_p_fallen := ((rK zI)).mono e12 h_p_fallen
        have h_p_rounds := RLs.mono e112 h_p_rounds
        obtain ⟨v_p_state, rfl, h_p_state⟩ := hv12
        cases (show v_p_state = V.int p_state from h_p_state)
        have b12 := Same.refl G12
        refine (show (_ : TS) _ ([some v_p_table, some (.int p_driver_count), some v_p_bad, some (.ref l_p_rounds), some (.int p_number), some (.bl p_changed), some (.int p_state), some v_p_left, some v_p_fallen, none] : L2.St) _ from ?_)
        unfold m_lost_rounds_b15 at hm
        try dsimp only at hm
        refine w_set (K := K) (i := 3) 0 (xs := p_rounds) rfl rfl h_p_rounds (e_some nn_I (e_var (K := K) (i := 4) (R := zI) (x := p_number) rfl rfl)) (e_var (K := K) (i := 6) (R := zI) (x := p_state) rfl rfl) hs hm (fun p_rounds vs_p_rounds G13 H13 e13 hs h13 hm => ?_)
        have h_p_table := ((rP (rsC zI (rsC zI (rs1 (rT (rT (rP (rsC zI (rs1 zI)))))))))).mono e13 h_p_table
        have h_p_bad := ((rK zI)).mono e13 h_p_bad
        have h_p_left := ((rK zI)).mono e13 h_p_left
        have h_p_fallen := ((rK zI)).mono e13 h_p_fallen
        have b12 := Same.trans b12 e13
        have h_p_rounds := h13
        exact E12.nx p_rounds _ _ _ _ _ b12 ⟨l_p_rounds, vs_p_rounds, some (.int p_state), rfl, rfl, h_p_rounds⟩ (Same.refl _) hs hm.out
      · obtain ⟨l_p_rounds, vs_p_rounds, d_6, rfl, rfl, h_p_rounds⟩ := w_
        have h_p_table := ((rP (rsC zI (rsC zI (rs1 (rT (rT (rP (rsC zI (rs1 zI)))))))))).mono e12 h_p_table
        have h_p_bad := ((rK zI)).mono e12 h_p_bad
        have h_p_left := ((rK zI)).mono e12 h_p_left
        have h_p_fallen := ((rK zI)).mono e12 h_p_fallen
        have h_p_rounds := RLs.mono e112 h_p_rounds
        have b5 := Same.trans b5 e12
        refine (show (_ : TS) _ ([some v_p_table, some (.int p_driver_count), some v_p_bad, some (.ref l_p_rounds), some (.int p_number), some (.bl p_changed), d_6, some v_p_left, some v_p_fallen, none] : L2.St) _ from ?_)
        try dsimp only at hm
        refine w_asg (K := K) (tg_name (i := 5) (R := rB)) (e_cmp (p := fun i j => decide (j < i)) (e_len sq_K (e_var (K := K) (i := 8) (R := (rK zI)) (x := p_fallen) rfl h_p_fallen)) e_int) hs hm (fun p_changed vv14 G14 H14 e14 hs hv14 hm => ?_)
        obtain ⟨v_p_changed, rfl, h_p_changed⟩ := hv14
        cases (show v_p_changed = V.bl p_changed from h_p_changed)
        have h_p_table := ((rP (rsC zI (rsC zI (rs1 (rT (rT (rP (rsC zI (rs1 zI)))))))))).mono e14 h_p_table
        have h_p_bad := ((rK zI)).mono e14 h_p_bad
        have h_p_rounds := RLs.mono e14 h_p_rounds
        have h_p_left := ((rK zI)).mono e14 h_p_left
        have h_p_fallen := ((rK zI)).mono e14 h_p_fallen
        have b5 := Same.trans b5 e14
        refine (show (_ : TS) _ ([some v_p_table, some (.int p_driver_count), some v_p_bad, some (.ref l_p_rounds), some (.int p_number), some (.bl p_changed), d_6, some v_p_left, some v_p_fallen, none] : L2.St) _ from ?_)
        exact E5.nx (p_number, p_rounds, p_changed) _ _ _ _ _ b5 ⟨l_p_rounds, vs_p_rounds, some v_p_left, some v_p_fallen, d_6, rfl, rfl, h_p_rounds⟩ (Same.refl _) hs hm.out
    · obtain ⟨p_number, p_rounds, p_changed⟩ := s_
      obtain ⟨l_p_rounds, vs_p_rounds, d_7, d_8, d_6, rfl, rfl, h_p_rounds⟩ := w_
      have h_p_table := ((rP (rsC zI (rsC zI (rs1 (rT (rT (rP (rsC zI (rs1 zI)))))))))).mono e5 h_p_table
      have h_p_bad := ((rK zI)).mono e5 h_p_bad
      have h_p_rounds := RLs.mono e15 h_p_rounds
      refine (show (_ : TS) _ ([some v_p_table, some (.int p_driver_count), some v_p_bad, some (.ref l_p_rounds), some (.int p_number), some (.bl p_changed), d_6, d_7, d_8, none] : L2.St) _ from ?_)
      try dsimp only at hm
      have fg16 := (hs.at 0 rfl).2.2
      have ng16 := (hs.at 0 rfl).2.1
      have eg16 := same_new (o := HO.lst vs_p_rounds) ng16
      have hs := hs.give 0 rfl
      have h_p_rounds : (rF H (rO zI)).r K _ (.ref l_p_rounds) p_rounds := ⟨l_p_rounds, vs_p_rounds, rfl, fg16, upd_same, RLs.mono eg16 h_p_rounds⟩
      have h_p_table := ((rP (rsC zI (rsC zI (rs1 (rT (rT (rP (rsC zI (rs1 zI)))))))))).mono eg16 h_p_table
      have h_p_bad := ((rK zI)).mono eg16 h_p_bad
      exact w_ret0 (K := K) (e_var (K := K) (i := 3) (R := (rF H (rO zI))) (x := p_rounds) rfl h_p_rounds) hs hm fun r v G2 H2 hs2 hr2 hq => hq v G2 H2 hs2.fin hr2

theorem ok_play_game {P : Program} {w : World} {K : PySem.W.Frag} {mg : Str → Option Value} {base : Heap} {cl : Nat → Addr} {fa : Addr} {fd : FuncData} (F : Fun K "play_game" "play_game" s_play_game fa fd) (T : Txt K mg cl) (C_check_driver : Cal P w K mg base "check_driver" 1 ["table", "driver_count"] (spP K cl (rsC (rP (rsC zI (rsC zI (rs1 (rT (rT (rP (rsC zI (rs1 zI))))))))) (rs1 zI)) rN (fun a => m_check_driver (a.1) (a.2)))) (C_lost_rounds : Cal P w K mg base "lost_rounds" 3 ["table", "driver_count", "bad"] (spPF K cl (rsC (rP (rsC zI (rsC zI (rs1 (rT (rT (rP (rsC zI (rs1 zI))))))))) (rsC zI (rs1 (rK zI)))) (fun H => (rF H (rO zI))) (fun a => m_lost_rounds (a.1) (a.2.1) (a.2.2)))) (C_good_moves : Cal P w K mg base "good_moves" 2 ["table", "driver_count", "bad", "rounds", "state"] (spP K cl (rsC (rP (rsC zI (rsC zI (rs1 (rT (rT (rP (rsC zI (rs1 zI))))))))) (rsC zI (rsC (rK zI) (rsC (rK (rO zI)) (rs1 zI))))) (rK zI) (fun a => m_good_moves (a.1) (a.2.1) (a.2.2.1) (a.2.2.2.1) (a.2.2.2.2)))) :
    FnOk P w K mg base (L2.CX P w) 4 fa fd ["table", "driver_count", "bad"] (spPF K cl (rsC (rP (rsC zI (rsC zI (rs1 (rT (rT (rP (rsC zI (rs1 zI))))))))) (rsC zI (rs1 (rK zI)))) (fun H => (rP (rsC rS (rs1 (rF H (rO zI)))))) (fun a => m_play_game (a.1) (a.2.1) (a.2.2))) := by
  refine F.okX sc_play_game (fun vs H Q E h => ?_) (fun cdv A outer s H vs Q E hr h => ?_)
  · obtain ⟨G, a, _, hS, _⟩ := h
    exact (lnC (lnC ln1)) _ _ _ _ hS
  · obtain ⟨G, ⟨p_table, p_driver_count, p_bad⟩, hg, hS, hm⟩ := h
    obtain ⟨v_p_table, _, rfl, h_p_table, v_p_driver_count, _, rfl, h_p_driver_count, v_p_bad, rfl, h_p_bad⟩ := hS
    cases (show v_p_driver_count = V.int p_driver_count from h_p_driver_count)
    have tk : Takes (cxOf (L2.CX P w) P w K mg base N_play_game "play_game" (defScope s_play_game) fa cdv A outer s H E) (fun cls d _ H => E cls d H) := takes_of rfl rfl rfl rfl
    refine ⟨_, (pss_cons (ps_expr (pe_call (E := E) C_check_driver.ok (hr.mono (by decide)) rfl C_check_driver.mgx C_check_driver.kp C_check_driver.bd .nil (passes_call tk (fun _ _ _ _ h => h)) (pa_cons (pv 0) (pa_cons (pv 1) pa_nil))))
     (pss_cons (ps_set (i := 3) sc_play_game.nd rfl (by first | exact Or.inl rfl | exact Or.inr rfl) (pe_call (E := E) C_lost_rounds.ok (hr.mono (by decide)) rfl C_lost_rounds.mgx C_lost_rounds.kp C_lost_rounds.bd .nil (passes_call tk (fun _ _ _ _ h => h)) (pa_cons (pv 0) (pa_cons (pv 1) (pa_cons (pv 2) pa_nil)))))
     (pss_cons (ps_if (pt_cmpR op_notN (pe_ix (r := rIxL K) ix_list (pv 3) pe_int (fun _ _ => rfl)) pe_non (nomark _)) (pss_cons (ps_ret (pe_tup (pa_cons pe_str (pa_cons (pv 3) pa_nil))))
     pss_nil) pss_nil)
     (pss_cons (ps_set (i := 4) sc_play_game.nd rfl (by first | exact Or.inl rfl | exact Or.inr rfl) (pe_lst pa_nil))
     (pss_cons (ps_for (passes_of rfl) rfl (pi_enum (by rfl) T.n_enumerate (pa_cons (pv 3) pa_nil)) (show PG _ _ (gTup K 2 _) from pg_tup rfl (pgs_cons (pg_name (i := 5) sc_play_game.nd rfl (by first | exact Or.inl rfl | exact Or.inr rfl)) (pgs_cons (pg_name (i := 6) sc_play_game.nd rfl (by first | exact Or.inl rfl | exact Or.inr rfl)) pgs_nil))) (pss_cons (ps_expr (pe_bm PySem.F.plainAttrs_list PySem.F.slot_list_append PySem.F.type_list_append mt_append (pv 4) (pa_cons (pe_ifExp (pt_cmpR op_isN (pv 6) pe_non (nomark _)) (pe_ix (r := rIxL K) ix_list (pe_call (E := E) C_good_moves.ok (hr.mono (by decide)) rfl C_good_moves.mgx C_good_moves.kp C_good_moves.bd .nil (passes_call tk (fun _ _ _ _ h => h)) (pa_cons (pv 0) (pa_cons (pv 1) (pa_cons (pv 2) (pa_cons (pv 3) (pa_cons (pv 5) pa_nil)))))) pe_int (fun _ _ => rfl)) pe_non) pa_nil)))
     pss_nil))
     (pss_cons (ps_ret (pe_tup (pa_cons pe_str (pa_cons (pv 4) pa_nil))))
     pss_nil)))))), ?_⟩
    have hs : Hs ⟨H, G, E, cl⟩ G [] H := Hs.start hg
    have hm := Wp.ofSp (G0 := G) hm
    dsimp only at hm
    unfold m_play_game at hm
    refine (show (_ : TS) _ ([some v_p_table, some (.int p_driver_count), some v_p_bad, none, none, none, none] : L2.St) _ from ?_)
    refine w_drop (K := K) (e_call (fm := ⟨H, G, E, cl⟩) (a_cons (e_var (K := K) (i := 0) (R := (rP (rsC zI (rsC zI (rs1 (rT (rT (rP (rsC zI (rs1 zI)))))))))) (x := p_table) rfl h_p_table) (a_one (e_var (K := K) (i := 1) (R := zI) (x := p_driver_count) rfl rfl)))) hs hm (fun x1 G1 H1 e1 hs hm => ?_)
    have h_p_table := ((rP (rsC zI (rsC zI (rs1 (rT (rT (rP (rsC zI (rs1 zI)))))))))).mono e1 h_p_table
    have h_p_bad := ((rK zI)).mono e1 h_p_bad
    refine w_asg (K := K) (tg_name (i := 3) (R := (rF H (rO zI)))) (e_callF (Rf := fun H => (rF H (rO zI))) (fm := ⟨H, G, E, cl⟩) an_F (a_cons (e_var (K := K) (i := 0) (R := (rP (rsC zI (rsC zI (rs1 (rT (rT (rP (rsC zI (rs1 zI)))))))))) (x := p_table) rfl h_p_table) (a_cons (e_var (K := K) (i := 1) (R := zI) (x := p_driver_count) rfl rfl) (a_one (e_var (K := K) (i := 2) (R := (rK zI)) (x := p_bad) rfl h_p_bad))))) hs hm (fun p_rounds vv2 G2 H2 e2 hs hv2 hm => ?_)
    obtain ⟨v_p_rounds, rfl, h_p_rounds⟩ := hv2
    have h_p_table := ((rP (rsC zI (rsC zI (rs1 (rT (rT (rP (rsC zI (rs1 zI)))))))))).mono e2 h_p_table
    have h_p_bad := ((rK zI)).mono e2 h_p_bad
    refine (show (_ : TS) _ ([some v_p_table, some (.int p_driver_count), some v_p_bad, some v_p_rounds, none, none, none] : L2.St) _ from ?_)
    refine w_if (t_test (K := K) (e_notN (e_ixL (e_KL (e_FK (e_var (K := K) (i := 3) (R := (rF H (rO zI))) (x := p_rounds) rfl h_p_rounds))) e_int))) hs hm (fun G3 H3 e3 hs hm => ?_) (fun G3 H3 e3 hs hm => ?_)
    · have h_p_table := ((rP (rsC zI (rsC zI (rs1 (rT (rT (rP (rsC zI (rs1 zI)))))))))).mono e3 h_p_table
      have h_p_bad := ((rK zI)).mono e3 h_p_bad
      have h_p_rounds := ((rF H (rO zI))).mono e3 h_p_rounds
      exact w_ret0 (K := K) (e_tup (lnC ln1) (a_cons e_str (a_one (e_var (K := K) (i := 3) (R := (rF H (rO zI))) (x := p_rounds) rfl h_p_rounds))) (by decide)) hs hm fun r v G2 H2 hs2 hr2 hq => hq v G2 H2 hs2.fin hr2
    · have h_p_table := ((rP (rsC zI (rsC zI (rs1 (rT (rT (rP (rsC zI (rs1 zI)))))))))).mono e3 h_p_table
      have h_p_bad := ((rK zI)).mono e3 h_p_bad
      have h_p_rounds := ((rF H (rO zI))).mono e3 h_p_rounds
      refine nx_of ?_
      refine (show (_ : TS) _ ([some v_p_table, some (.int p_driver_count), some v_p_bad, some v_p_rounds, none, none, none] : L2.St) _ from ?_)
      refine w_asgN (K := K) (R := (rO zI)) (i := 4) (e_lst l_nil (by decide)) hs hm (fun p_moves l_p_moves vs_p_moves G4 H4 e4 hs h4 hm => ?_)
      have h_p_table := ((rP (rsC zI (rsC zI (rs1 (rT (rT (rP (rsC zI (rs1 zI)))))))))).mono e4 h_p_table
      have h_p_bad := ((rK zI)).mono e4 h_p_bad
      have h_p_rounds := ((rF H (rO zI))).mono e4 h_p_rounds
      have h_p_moves := h4
      refine (show (_ : TS) _ ([some v_p_table, some (.int p_driver_count), some v_p_bad, some v_p_rounds, some (.ref l_p_moves), none, none] : L2.St) _ from ?_)
      refine w_forM (K := K) (fun (p_moves : (List (Option Int))) (σ : L2.St) (G : Hp) (O : Own) => ∃ (l_p_moves : Addr) (vs_p_moves : List V) (d_5 : Option V) (d_6 : Option V), σ = [some v_p_table, some (.int p_driver_count), some v_p_bad, some v_p_rounds, some (.ref l_p_moves), d_5, d_6] ∧ O = [(l_p_moves, .lst vs_p_moves)] ∧ RLs (rO zI) K G vs_p_moves p_moves) (i_enum (e_KL (e_FK (e_var (K := K) (i := 3) (R := (rF H (rO zI))) (x := p_rounds) rfl h_p_rounds)))) (fun _ _ _ _ _ _ h => nomatch h) (tg_tup2) hs hm ⟨l_p_moves, vs_p_moves, none, none, rfl, rfl, h_p_moves⟩ (fun x5 p_moves σ_ G1_5 G5 O_ H5 vv5 D5 Qb5 e5 w_ e15 hs hv5 E5 hm => ?_) (fun p_moves σ_ G1_5 G5 O_ H5 e5 w_ e15 hs hm => ?_)
      · obtain ⟨l_p_moves, vs_p_moves, d_5, d_6, rfl, rfl, h_p_moves⟩ := w_
        have h_p_table := ((rP (rsC zI (rsC zI (rs1 (rT (rT (rP (rsC zI (rs1 zI)))))))))).mono e5 h_p_table
        have h_p_bad := ((rK zI)).mono e5 h_p_bad
        have h_p_rounds := ((rF H (rO zI))).mono e5 h_p_rounds
        have h_p_moves := RLs.mono e15 h_p_moves
        obtain ⟨p_state, p_number⟩ := x5
        obtain ⟨v_p_state, _, rfl, h_p_state, v_p_number, rfl, h_p_number⟩ := hv5
        cases (show v_p_state = V.int p_state from h_p_state)
        have b5 := Same.refl G5
        refine (show (_ : TS) _ ([some v_p_table, some (.int p_driver_count), some v_p_bad, some v_p_rounds, some (.ref l_p_moves), some (.int p_state), some v_p_number] : L2.St) _ from ?_)
        unfold m_play_game_b8 at hm
        try dsimp only at hm
        refine w_app (K := K) (i := 4) 0 (xs := p_moves) rfl rfl h_p_moves (e_ifExp (t_test (K := K) (e_isN (e_var (K := K) (i := 6) (R := (rO zI)) (x := p_number) rfl h_p_number))) (e_some nn_I (e_ixL (e_KL (e_call (fm := ⟨H, G, E, cl⟩) (a_cons (e_var (K := K) (i := 0) (R := (rP (rsC zI (rsC zI (rs1 (rT (rT (rP (rsC zI (rs1 zI)))))))))) (x := p_table) rfl h_p_table) (a_cons (e_var (K := K) (i := 1) (R := zI) (x := p_driver_count) rfl rfl) (a_cons (e_var (K := K) (i := 2) (R := (rK zI)) (x := p_bad) rfl h_p_bad) (a_cons (e_FK (e_var (K := K) (i := 3) (R := (rF H (rO zI))) (x := p_rounds) rfl h_p_rounds)) (a_one (e_var (K := K) (i := 5) (R := zI) (x := p_state) rfl rfl)))))))) e_int)) (e_nonO (R := zI))) hs hm (fun y6 w6 G6 H6 e6 hs h6 hm => ?_)
        have h_p_table := ((rP (rsC zI (rsC zI (rs1 (rT (rT (rP (rsC zI (rs1 zI)))))))))).mono e6 h_p_table
        have h_p_bad := ((rK zI)).mono e6 h_p_bad
        have h_p_rounds := ((rF H (rO zI))).mono e6 h_p_rounds
        have h_p_number := ((rO zI)).mono e6 h_p_number
        have b5 := Same.trans b5 e6
        have h_p_moves := h6
        generalize p_moves ++ [y6] = p_moves at hm h_p_moves
        generalize vs_p_moves ++ [w6] = vs_p_moves at hs h_p_moves
        exact E5.nx p_moves _ _ _ _ _ b5 ⟨l_p_moves, vs_p_moves, some (.int p_state), some v_p_number, rfl, rfl, h_p_moves⟩ (Same.refl _) hs hm.out
      · obtain ⟨l_p_moves, vs_p_moves, d_5, d_6, rfl, rfl, h_p_moves⟩ := w_
        have h_p_table := ((rP (rsC zI (rsC zI (rs1 (rT (rT (rP (rsC zI (rs1 zI)))))))))).mono e5 h_p_table
        have h_p_bad := ((rK zI)).mono e5 h_p_bad
        have h_p_rounds := ((rF H (rO zI))).mono e5 h_p_rounds
        have h_p_moves := RLs.mono e15 h_p_moves
        refine (show (_ : TS) _ ([some v_p_table, some (.int p_driver_count), some v_p_bad, some v_p_rounds, some (.ref l_p_moves), d_5, d_6] : L2.St) _ from ?_)
        try dsimp only at hm
        have fg7 := (hs.at 0 rfl).2.2
        have ng7 := (hs.at 0 rfl).2.1
        have eg7 := same_new (o := HO.lst vs_p_moves) ng7
        have hs := hs.give 0 rfl
        have h_p_moves : (rF H (rO zI)).r K _ (.ref l_p_moves) p_moves := ⟨l_p_moves, vs_p_moves, rfl, fg7, upd_same, RLs.mono eg7 h_p_moves⟩
        have h_p_table := ((rP (rsC zI (rsC zI (rs1 (rT (rT (rP (rsC zI (rs1 zI)))))))))).mono eg7 h_p_table
        have h_p_bad := ((rK zI)).mono eg7 h_p_bad
        have h_p_rounds := ((rF H (rO zI))).mono eg7 h_p_rounds
        exact w_ret0 (K := K) (e_tup (lnC ln1) (a_cons e_str (a_one (e_var (K := K) (i := 4) (R := (rF H (rO zI))) (x := p_moves) rfl h_p_moves))) (by decide)) hs hm fun r v G2 H2 hs2 hr2 hq => hq v G2 H2 hs2.fin hr2

theorem ok_is_move {P : Program} {w : World} {K : PySem.W.Frag} {mg : Str → Option Value} {base : Heap} {cl : Nat → Addr} {fa : Addr} {fd : FuncData} (F : Fun K "is_move" "is_move" s_is_move fa fd) (T : Txt K mg cl)  :
    FnOk P w K mg base (L2.CX P w) 1 fa fd ["driver_count", "move"] (spP K cl (rsC zI (rs1 zI)) rB (fun a => m_is_move (a.1) (a.2))) := by
  refine F.okX sc_is_move (fun vs H Q E h => ?_) (fun cdv A outer s H vs Q E hr h => ?_)
  · obtain ⟨G, a, _, hS, _⟩ := h
    exact (lnC ln1) _ _ _ _ hS
  · obtain ⟨G, ⟨p_driver_count, p_move⟩, hg, hS, hm⟩ := h
    obtain ⟨v_p_driver_count, _, rfl, h_p_driver_count, v_p_move, rfl, h_p_move⟩ := hS
    cases (show v_p_driver_count = V.int p_driver_count from h_p_driver_count)
    cases (show v_p_move = V.int p_move from h_p_move)
    refine ⟨_, (pss_cons (ps_ret (pe_chain op_le op_lt pe_int (pv 1) (pe_op op_shl pe_int (pv 0))))
     pss_nil), ?_⟩
    have hs : Hs ⟨H, G, E, cl⟩ G [] H := Hs.start hg
    have hm := Wp.ofSp (G0 := G) hm
    dsimp only at hm
    unfold m_is_move at hm
    refine (show (_ : TS) _ ([some (.int p_driver_count), some (.int p_move)] : L2.St) _ from ?_)
    exact w_ret0 (K := K) (e_chain e_int (e_var (K := K) (i := 1) (R := zI) (x := p_move) rfl rfl) (e_shl e_int (e_var (K := K) (i := 0) (R := zI) (x := p_driver_count) rfl rfl))) hs hm fun r v G2 H2 hs2 hr2 hq => hq v G2 H2 hs2.fin hr2

theorem ok_shows_safe {P : Program} {w : World} {K : PySem.W.Frag} {mg : Str → Option Value} {base : Heap} {cl : Nat → Addr} {fa : Addr} {fd : FuncData} (F : Fun K "shows_safe" "shows_safe" s_shows_safe fa fd) (T : Txt K mg cl) (C_check_driver : Cal P w K mg base "check_driver" 1 ["table", "driver_count"] (spP K cl (rsC (rP (rsC zI (rsC zI (rs1 (rT (rT (rP (rsC zI (rs1 zI))))))))) (rs1 zI)) rN (fun a => m_check_driver (a.1) (a.2)))) (C_state_count : Cal P w K mg base "state_count" 1 ["table"] (spP K cl (rs1 (rP (rsC zI (rsC zI (rs1 (rT (rT (rP (rsC zI (rs1 zI)))))))))) zI (fun a => m_state_count a))) (C_is_move : Cal P w K mg base "is_move" 1 ["driver_count", "move"] (spP K cl (rsC zI (rs1 zI)) rB (fun a => m_is_move (a.1) (a.2)))) (C_outcomes : Cal P w K mg base "outcomes" 1 ["table", "driver_count", "state", "move"] (spP K cl (rsC (rP (rsC zI (rsC zI (rs1 (rT (rT (rP (rsC zI (rs1 zI))))))))) (rsC zI (rsC zI (rs1 zI)))) (rK (rP (rsC zI (rs1 zI)))) (fun a => m_outcomes (a.1) (a.2.1) (a.2.2.1) (a.2.2.2)))) :
    FnOk P w K mg base (L2.CX P w) 2 fa fd ["table", "driver_count", "bad", "moves"] (spP K cl (rsC (rP (rsC zI (rsC zI (rs1 (rT (rT (rP (rsC zI (rs1 zI))))))))) (rsC zI (rsC (rK zI) (rs1 (rK (rO zI)))))) rB (fun a => m_shows_safe (a.1) (a.2.1) (a.2.2.1) (a.2.2.2))) := by
  refine F.okX sc_shows_safe (fun vs H Q E h => ?_) (fun cdv A outer s H vs Q E hr h => ?_)
  · obtain ⟨G, a, _, hS, _⟩ := h
    exact (lnC (lnC (lnC ln1))) _ _ _ _ hS
  · obtain ⟨G, ⟨p_table, p_driver_count, p_bad, p_moves⟩, hg, hS, hm⟩ := h
    obtain ⟨v_p_table, _, rfl, h_p_table, v_p_driver_count, _, rfl, h_p_driver_count, v_p_bad, _, rfl, h_p_bad, v_p_moves, rfl, h_p_moves⟩ := hS
    cases (show v_p_driver_count = V.int p_driver_count from h_p_driver_count)
    have tk : Takes (cxOf (L2.CX P w) P w K mg base N_shows_safe "shows_safe" (defScope s_shows_safe) fa cdv A outer s H E) (fun cls d _ H => E cls d H) := takes_of rfl rfl rfl rfl
    refine ⟨_, (pss_cons (ps_expr (pe_call (E := E) C_check_driver.ok (hr.mono (by decide)) rfl C_check_driver.mgx C_check_driver.kp C_check_driver.bd .nil (passes_call tk (fun _ _ _ _ h => h)) (pa_cons (pv 0) (pa_cons (pv 1) pa_nil))))
     (pss_cons (ps_if (PW.pt (pw_or (pt_cmpR op_ne (pe_callB (r := rLen K) call_len (by rfl) T.n_len b_len (pa_cons (pv 3) pa_nil)) (pe_call (E := E) C_state_count.ok (hr.mono (by decide)) rfl C_state_count.mgx C_state_count.kp C_state_count.bd .nil (passes_call tk (fun _ _ _ _ h => h)) (pa_cons (pv 0) pa_nil)) (nomark _)) (pw_or1 (pt_cmpR op_isN (pe_ix (r := rIxL K) ix_list (pv 3) pe_int (fun _ _ => rfl)) pe_non (nomark _))))) (pss_cons (ps_ret pe_bl)
     pss_nil) pss_nil)
     (pss_cons (ps_for (passes_of rfl) rfl (pi_enum (by rfl) T.n_enumerate (pa_cons (pv 3) pa_nil)) (show PG _ _ (gTup K 2 _) from pg_tup rfl (pgs_cons (pg_name (i := 4) sc_shows_safe.nd rfl (by first | exact Or.inl rfl | exact Or.inr rfl)) (pgs_cons (pg_name (i := 5) sc_shows_safe.nd rfl (by first | exact Or.inl rfl | exact Or.inr rfl)) pgs_nil))) (pss_cons (ps_if (pt_cmpR op_notN (pv 5) pe_non (nomark _)) (pss_cons (ps_if (pt_not (pt_val (pe_call (E := E) C_is_move.ok (hr.mono (by decide)) rfl C_is_move.mgx C_is_move.kp C_is_move.bd .nil (passes_call tk (fun _ _ _ _ h => h)) (pa_cons (pv 1) (pa_cons (pv 5) pa_nil))))) (pss_cons (ps_ret pe_bl)
     pss_nil) pss_nil)
     (pss_cons (ps_for (passes_of rfl) rfl (pi_list (pe_call (E := E) C_outcomes.ok (hr.mono (by decide)) rfl C_outcomes.mgx C_outcomes.kp C_outcomes.bd .nil (passes_call tk (fun _ _ _ _ h => h)) (pa_cons (pv 0) (pa_cons (pv 1) (pa_cons (pv 4) (pa_cons (pv 5) pa_nil)))))) (show PG _ _ (gTup K 2 _) from pg_tup rfl (pgs_cons (pg_name (i := 6) sc_shows_safe.nd rfl (by first | exact Or.inl rfl | exact Or.inr rfl)) (pgs_cons (pg_name (i := 7) sc_shows_safe.nd rfl (by first | exact Or.inl rfl | exact Or.inr rfl)) pgs_nil))) (pss_cons (ps_if (PW.pt (pw_or (pt_cmpR (r := rIn K false) op_in_seq (pv 7) (pv 2) (by rfl)) (pw_or1 (pt_cmpR op_isN (pe_ix (r := rIxL K) ix_list (pv 3) (pv 6) (fun _ _ => rfl)) pe_non (nomark _))))) (pss_cons (ps_ret pe_bl)
     pss_nil) pss_nil)
     pss_nil))
     pss_nil)) pss_nil)
     pss_nil))
     (pss_cons (ps_ret pe_bl)
     pss_nil)))), ?_⟩
    have hs : Hs ⟨H, G, E, cl⟩ G [] H := Hs.start hg
    have hm := Wp.ofSp (G0 := G) hm
    dsimp only at hm
    unfold m_shows_safe at hm
    refine (show (_ : TS) _ ([some v_p_table, some (.int p_driver_count), some v_p_bad, some v_p_moves, none, none, none, none] : L2.St) _ from ?_)
    refine w_drop (K := K) (e_call (fm := ⟨H, G, E, cl⟩) (a_cons (e_var (K := K) (i := 0) (R := (rP (rsC zI (rsC zI (rs1 (rT (rT (rP (rsC zI (rs1 zI)))))))))) (x := p_table) rfl h_p_table) (a_one (e_var (K := K) (i := 1) (R := zI) (x := p_driver_count) rfl rfl)))) hs hm (fun x1 G1 H1 e1 hs hm => ?_)
    have h_p_table := ((rP (rsC zI (rsC zI (rs1 (rT (rT (rP (rsC zI (rs1 zI)))))))))).mono e1 h_p_table
    have h_p_bad := ((rK zI)).mono e1 h_p_bad
    have h_p_moves := ((rK (rO zI))).mono e1 h_p_moves
    refine w_if (t_or (t_test (K := K) (e_ne srI (e_len sq_K (e_var (K := K) (i := 3) (R := (rK (rO zI))) (x := p_moves) rfl h_p_moves)) (e_call (fm := ⟨H, G, E, cl⟩) (a_one (e_var (K := K) (i := 0) (R := (rP (rsC zI (rsC zI (rs1 (rT (rT (rP (rsC zI (rs1 zI)))))))))) (x := p_table) rfl h_p_table))))) (t_test (K := K) (e_isN (e_ixL (e_KL (e_var (K := K) (i := 3) (R := (rK (rO zI))) (x := p_moves) rfl h_p_moves)) e_int)))) hs hm (fun G2 H2 e2 hs hm => ?_) (fun G2 H2 e2 hs hm => ?_)
    · have h_p_table := ((rP (rsC zI (rsC zI (rs1 (rT (rT (rP (rsC zI (rs1 zI)))))))))).mono e2 h_p_table
      have h_p_bad := ((rK zI)).mono e2 h_p_bad
      have h_p_moves := ((rK (rO zI))).mono e2 h_p_moves
      exact w_ret0 (K := K) e_bl hs hm fun r v G2 H2 hs2 hr2 hq => hq v G2 H2 hs2.fin hr2
    · have h_p_table := ((rP (rsC zI (rsC zI (rs1 (rT (rT (rP (rsC zI (rs1 zI)))))))))).mono e2 h_p_table
      have h_p_bad := ((rK zI)).mono e2 h_p_bad
      have h_p_moves := ((rK (rO zI))).mono e2 h_p_moves
      refine nx_of ?_
      refine (show (_ : TS) _ ([some v_p_table, some (.int p_driver_count), some v_p_bad, some v_p_moves, none, none, none, none] : L2.St) _ from ?_)
      refine w_forB (K := K) (Rr := rB) (fun (_ : Unit) (σ : L2.St) (G : Hp) (O : Own) => ∃ (d_4 : Option V) (d_5 : Option V) (d_6 : Option V) (d_7 : Option V), σ = [some v_p_table, some (.int p_driver_count), some v_p_bad, some v_p_moves, d_4, d_5, d_6, d_7] ∧ O = []) (i_enum (e_KL (e_var (K := K) (i := 3) (R := (rK (rO zI))) (x := p_moves) rfl h_p_moves))) (fun _ _ _ _ _ _ h => nomatch h) (tg_tup2) hs hm ⟨none, none, none, none, rfl, rfl⟩ (fun r v G2 O2 H2 hs2 hr2 hq => hq v G2 H2 hs2.fin hr2) (fun x3 s_ σ_ G1_3 G3 O_ H3 vv3 D3 Qb3 e3 w_ e13 hs hv3 E3 hm => ?_) (fun s_ σ_ G1_3 G3 O_ H3 e3 w_ e13 hs hm => ?_)
      · obtain ⟨d_4, d_5, d_6, d_7, rfl, rfl⟩ := w_
        have h_p_table := ((rP (rsC zI (rsC zI (rs1 (rT (rT (rP (rsC zI (rs1 zI)))))))))).mono e3 h_p_table
        have h_p_bad := ((rK zI)).mono e3 h_p_bad
        have h_p_moves := ((rK (rO zI))).mono e3 h_p_moves
        obtain ⟨p_state, p_move⟩ := x3
        obtain ⟨v_p_state, _, rfl, h_p_state, v_p_move, rfl, h_p_move⟩ := hv3
        cases (show v_p_state = V.int p_state from h_p_state)
        have b3 := Same.refl G3
        refine (show (_ : TS) _ ([some v_p_table, some (.int p_driver_count), some v_p_bad, some v_p_moves, some (.int p_state), some v_p_move, d_6, d_7] : L2.St) _ from ?_)
        unfold m_shows_safe_b9 at hm
        try dsimp only at hm
        refine w_if (t_test (K := K) (e_notN (e_var (K := K) (i := 5) (R := (rO zI)) (x := p_move) rfl h_p_move))) hs hm (fun G4 H4 e4 hs hm => ?_) (fun G4 H4 e4 hs hm => ?_)
        · have h_p_table := ((rP (rsC zI (rsC zI (rs1 (rT (rT (rP (rsC zI (rs1 zI)))))))))).mono e4 h_p_table
          have h_p_bad := ((rK zI)).mono e4 h_p_bad
          have h_p_moves := ((rK (rO zI))).mono e4 h_p_moves
          have h_p_move := ((rO zI)).mono e4 h_p_move
          have b3 := Same.trans b3 e4
          refine w_if (t_not (t_val (K := K) (e_call (fm := ⟨H, G, E, cl⟩) (a_cons (e_var (K := K) (i := 1) (R := zI) (x := p_driver_count) rfl rfl) (a_one (e_get (e_var (K := K) (i := 5) (R := (rO zI)) (x := p_move) rfl h_p_move))))))) hs hm (fun G5 H5 e5 hs hm => ?_) (fun G5 H5 e5 hs hm => ?_)
          · have h_p_table := ((rP (rsC zI (rsC zI (rs1 (rT (rT (rP (rsC zI (rs1 zI)))))))))).mono e5 h_p_table
            have h_p_bad := ((rK zI)).mono e5 h_p_bad
            have h_p_moves := ((rK (rO zI))).mono e5 h_p_moves
            have h_p_move := ((rO zI)).mono e5 h_p_move
            have b3 := Same.trans b3 e5
            exact w_ret (K := K) (kr := Tn.rt) e_bl hs hm fun r v G2 H2 hs2 hr2 hq => E3.rt r v _ _ _ hs2 hr2 hq
          · have h_p_table := ((rP (rsC zI (rsC zI (rs1 (rT (rT (rP (rsC zI (rs1 zI)))))))))).mono e5 h_p_table
            have h_p_bad := ((rK zI)).mono e5 h_p_bad
            have h_p_moves := ((rK (rO zI))).mono e5 h_p_moves
            have h_p_move := ((rO zI)).mono e5 h_p_move
            have b3 := Same.trans b3 e5
            refine nx_of ?_
            refine (show (_ : TS) _ ([some v_p_table, some (.int p_driver_count), some v_p_bad, some v_p_moves, some (.int p_state), some v_p_move, d_6, d_7] : L2.St) _ from ?_)
            refine w_forB (K := K) (Rr := rB) (fun (_ : Unit) (σ : L2.St) (G : Hp) (O : Own) => ∃ (d_6 : Option V) (d_7 : Option V), σ = [some v_p_table, some (.int p_driver_count), some v_p_bad, some v_p_moves, some (.int p_state), some v_p_move, d_6, d_7] ∧ O = []) (i_list (e_KL (e_call (fm := ⟨H, G, E, cl⟩) (a_cons (e_var (K := K) (i := 0) (R := (rP (rsC zI (rsC zI (rs1 (rT (rT (rP (rsC zI (rs1 zI)))))))))) (x := p_table) rfl h_p_table) (a_cons (e_var (K := K) (i := 1) (R := zI) (x := p_driver_count) rfl rfl) (a_cons (e_var (K := K) (i := 4) (R := zI) (x := p_state) rfl rfl) (a_one (e_get (e_var (K := K) (i := 5) (R := (rO zI)) (x := p_move) rfl h_p_move))))))))) (fun _ _ _ _ _ _ h => nomatch h) (tg_tup2) hs hm ⟨d_6, d_7, rfl, rfl⟩ (fun r v G2 O2 H2 hs2 hr2 hq => E3.rt r v _ _ _ hs2 hr2 hq) (fun x6 s_ σ_ G1_6 G6 O_ H6 vv6 D6 Qb6 e6 w_ e16 hs hv6 E6 hm => ?_) (fun s_ σ_ G1_6 G6 O_ H6 e6 w_ e16 hs hm => ?_)
            · obtain ⟨d_6, d_7, rfl, rfl⟩ := w_
              have h_p_table := ((rP (rsC zI (rsC zI (rs1 (rT (rT (rP (rsC zI (rs1 zI)))))))))).mono e6 h_p_table
              have h_p_bad := ((rK zI)).mono e6 h_p_bad
              have h_p_moves := ((rK (rO zI))).mono e6 h_p_moves
              have h_p_move := ((rO zI)).mono e6 h_p_move
              obtain ⟨p_target, p_answer⟩ := x6
              obtain ⟨v_p_target, _, rfl, h_p_target, v_p_answer, rfl, h_p_answer⟩ := hv6
              cases (show v_p_target = V.int p_target from h_p_target)
              cases (show v_p_answer = V.int p_answer from h_p_answer)
              have b6 := Same.refl G6
              refine (show (_ : TS) _ ([some v_p_table, some (.int p_driver_count), some v_p_bad, some v_p_moves, some (.int p_state), some v_p_move, some (.int p_target), some (.int p_answer)] : L2.St) _ from ?_)
              unfold m_shows_safe_b8 at hm
              try dsimp only at hm
              refine w_if (t_or (t_test (K := K) (e_in srI sq_K (e_var (K := K) (i := 7) (R := zI) (x := p_answer) rfl rfl) (e_var (K := K) (i := 2) (R := (rK zI)) (x := p_bad) rfl h_p_bad))) (t_test (K := K) (e_isN (e_ixL (e_KL (e_var (K := K) (i := 3) (R := (rK (rO zI))) (x := p_moves) rfl h_p_moves)) (e_var (K := K) (i := 6) (R := zI) (x := p_target) rfl rfl))))) hs hm (fun G7 H7 e7 hs hm => ?_) (fun G7 H7 e7 hs hm => ?_)
              · have h_p_table := ((rP (rsC zI (rsC zI (rs1 (rT (rT (rP (rsC zI (rs1 zI)))))))))).mono e7 h_p_table
                have h_p_bad := ((rK zI)).mono e7 h_p_bad
                have h_p_moves := ((rK (rO zI))).mono e7 h_p_moves
                have h_p_move := ((rO zI)).mono e7 h_p_move
                have b6 := Same.trans b6 e7
                exact w_ret (K := K) (kr := Tn.rt) e_bl hs hm fun r v G2 H2 hs2 hr2 hq => E6.rt r v _ _ _ hs2 hr2 hq
              · have h_p_table := ((rP (rsC zI (rsC zI (rs1 (rT (rT (rP (rsC zI (rs1 zI)))))))))).mono e7 h_p_table
                have h_p_bad := ((rK zI)).mono e7 h_p_bad
                have h_p_moves := ((rK (rO zI))).mono e7 h_p_moves
                have h_p_move := ((rO zI)).mono e7 h_p_move
                have b6 := Same.trans b6 e7
                refine nx_of ?_
                refine (show (_ : TS) _ ([some v_p_table, some (.int p_driver_count), some v_p_bad, some v_p_moves, some (.int p_state), some v_p_move, some (.int p_target), some (.int p_answer)] : L2.St) _ from ?_)
                exact E6.nx () _ _ _ _ _ b6 ⟨some (.int p_target), some (.int p_answer), rfl, rfl⟩ (Same.refl _) hs hm.out
            · obtain ⟨d_6, d_7, rfl, rfl⟩ := w_
              have h_p_table := ((rP (rsC zI (rsC zI (rs1 (rT (rT (rP (rsC zI (rs1 zI)))))))))).mono e6 h_p_table
              have h_p_bad := ((rK zI)).mono e6 h_p_bad
              have h_p_moves := ((rK (rO zI))).mono e6 h_p_moves
              have h_p_move := ((rO zI)).mono e6 h_p_move
              have b3 := Same.trans b3 e6
              refine (show (_ : TS) _ ([some v_p_table, some (.int p_driver_count), some v_p_bad, some v_p_moves, some (.int p_state), some v_p_move, d_6, d_7] : L2.St) _ from ?_)
              try dsimp only at hm
              refine nx_of ?_
              refine (show (_ : TS) _ ([some v_p_table, some (.int p_driver_count), some v_p_bad, some v_p_moves, some (.int p_state), some v_p_move, d_6, d_7] : L2.St) _ from ?_)
              exact E3.nx () _ _ _ _ _ b3 ⟨some (.int p_state), some v_p_move, d_6, d_7, rfl, rfl⟩ (Same.refl _) hs hm.out
        · have h_p_table := ((rP (rsC zI (rsC zI (rs1 (rT (rT (rP (rsC zI (rs1 zI)))))))))).mono e4 h_p_table
          have h_p_bad := ((rK zI)).mono e4 h_p_bad
          have h_p_moves := ((rK (rO zI))).mono e4 h_p_moves
          have h_p_move := ((rO zI)).mono e4 h_p_move
          have b3 := Same.trans b3 e4
          refine nx_of ?_
          refine (show (_ : TS) _ ([some v_p_table, some (.int p_driver_count), some v_p_bad, some v_p_moves, some (.int p_state), some v_p_move, d_6, d_7] : L2.St) _ from ?_)
          exact E3.nx () _ _ _ _ _ b3 ⟨some (.int p_state), some v_p_move, d_6, d_7, rfl, rfl⟩ (Same.refl _) hs hm.out
      · obtain ⟨d_4, d_5, d_6, d_7, rfl, rfl⟩ := w_
        have h_p_table := ((rP (rsC zI (rsC zI (rs1 (rT (rT (rP (rsC zI (rs1 zI)))))))))).mono e3 h_p_table
        have h_p_bad := ((rK zI)).mono e3 h_p_bad
        have h_p_moves := ((rK (rO zI))).mono e3 h_p_moves
        refine (show (_ : TS) _ ([some v_p_table, some (.int p_driver_count), some v_p_bad, some v_p_moves, d_4, d_5, d_6, d_7] : L2.St) _ from ?_)
        try dsimp only at hm
        exact w_ret0 (K := K) e_bl hs hm fun r v G2 H2 hs2 hr2 hq => hq v G2 H2 hs2.fin hr2

theorem ok_is_spoilt {P : Program} {w : World} {K : PySem.W.Frag} {mg : Str → Option Value} {base : Heap} {cl : Nat → Addr} {fa : Addr} {fd : FuncData} (F : Fun K "is_spoilt" "is_spoilt" s_is_spoilt fa fd) (T : Txt K mg cl)  :
    FnOk P w K mg base (L2.CX P w) 1 fa fd ["pairs", "bad", "rounds", "number"] (spP K cl (rsC (rK (rP (rsC zI (rs1 zI)))) (rsC (rK zI) (rsC (rK (rO zI)) (rs1 zI)))) rB (fun a => m_is_spoilt (a.1) (a.2.1) (a.2.2.1) (a.2.2.2))) := by
  refine F.okX sc_is_spoilt (fun vs H Q E h => ?_) (fun cdv A outer s H vs Q E hr h => ?_)
  · obtain ⟨G, a, _, hS, _⟩ := h
    exact (lnC (lnC (lnC ln1))) _ _ _ _ hS
  · obtain ⟨G, ⟨p_pairs, p_bad, p_rounds, p_number⟩, hg, hS, hm⟩ := h
    obtain ⟨v_p_pairs, _, rfl, h_p_pairs, v_p_bad, _, rfl, h_p_bad, v_p_rounds, _, rfl, h_p_rounds, v_p_number, rfl, h_p_number⟩ := hS
    cases (show v_p_number = V.int p_number from h_p_number)
    refine ⟨_, (pss_cons (ps_ret (pe_callB (r := rAny K) (cr_any rfl) (by rfl) T.n_any b_any (pa_cons (pe_lc (own := [("target", 4), ("answer", 5)]) rfl sc_is_spoilt.nd (pi_list (pv 0)) (blkOk_by (own := [("target", 4), ("answer", 5)]) (N := N_is_spoilt) (sc := defScope s_is_spoilt) (by decide +kernel)) (fun _ _ _ _ _ => (show PG _ _ (gTup K 2 _) from pg_tup rfl (pgs_cons (pg_name (i := 4) sc_is_spoilt.nd rfl (by first | exact Or.inl rfl | exact Or.inr rfl)) (pgs_cons (pg_name (i := 5) sc_is_spoilt.nd rfl (by first | exact Or.inl rfl | exact Or.inr rfl)) pgs_nil)))) (fun _ _ _ _ _ => pts_nil) (fun _ _ _ _ _ => (pe_or (pe_cmpR (r := rIn K false) op_in_seq (pv 5) (pv 1) (by rfl)) (pe_one (pe_and (pe_cmpR op_notN (pe_ix (r := rIxL K) ix_list (pv 2) (pv 4) (fun _ _ => rfl)) pe_non (nomark _)) (pe_one (pe_cmpR op_lt (pe_ix (r := rIxL K) ix_list (pv 2) (pv 4) (fun _ _ => rfl)) (pv 3) (nomark _)))))))) pa_nil)))
     pss_nil), ?_⟩
    have hs : Hs ⟨H, G, E, cl⟩ G [] H := Hs.start hg
    have hm := Wp.ofSp (G0 := G) hm
    dsimp only at hm
    unfold m_is_spoilt at hm
    refine (show (_ : TS) _ ([some v_p_pairs, some v_p_bad, some v_p_rounds, some (.int p_number), none, none] : L2.St) _ from ?_)
    exact w_ret0 (K := K) (e_any (e_KL (EvN.evK (n_lc (S := rB) (i_list (e_KL (e_var (K := K) (i := 0) (R := (rK (rP (rsC zI (rs1 zI))))) (x := p_pairs) rfl h_p_pairs))) (fun _ h => nomatch h) (tg_tup2) (by decide) (fun x1 vs1 G1 e1 hv1 => by
     obtain ⟨v1_p_target, _, rfl, h1_p_target, v1_p_answer, rfl, h1_p_answer⟩ := hv1
     exact ⟨t_yes, (e_or (e_in srI sq_K (e_var (K := K) (i := 5) (R := zI) (x := x1.2) rfl h1_p_answer) (e_var (K := K) (i := 1) (R := (rK zI)) (x := p_bad) rfl (((rK zI)).mono e1 h_p_bad))) (e_and (e_notN (e_ixL (e_KL (e_var (K := K) (i := 2) (R := (rK (rO zI))) (x := p_rounds) rfl (((rK (rO zI))).mono e1 h_p_rounds))) (e_var (K := K) (i := 4) (R := zI) (x := x1.1) rfl h1_p_target))) (e_cmp (p := fun i j => decide (i < j)) (e_get (e_ixL (e_KL (e_var (K := K) (i := 2) (R := (rK (rO zI))) (x := p_rounds) rfl (((rK (rO zI))).mono e1 h_p_rounds))) (e_var (K := K) (i := 4) (R := zI) (x := x1.1) rfl h1_p_target))) (e_var (K := K) (i := 3) (R := zI) (x := p_number) rfl rfl))))⟩))))) hs hm fun r v G2 H2 hs2 hr2 hq => hq v G2 H2 hs2.fin hr2

theorem ok_shows_lost {P : Program} {w : World} {K : PySem.W.Frag} {mg : Str → Option Value} {base : Heap} {cl : Nat → Addr} {fa : Addr} {fd : FuncData} (F : Fun K "shows_lost" "shows_lost" s_shows_lost fa fd) (T : Txt K mg cl) (C_check_driver : Cal P w K mg base "check_driver" 1 ["table", "driver_count"] (spP K cl (rsC (rP (rsC zI (rsC zI (rs1 (rT (rT (rP (rsC zI (rs1 zI))))))))) (rs1 zI)) rN (fun a => m_check_driver (a.1) (a.2)))) (C_state_count : Cal P w K mg base "state_count" 1 ["table"] (spP K cl (rs1 (rP (rsC zI (rsC zI (rs1 (rT (rT (rP (rsC zI (rs1 zI)))))))))) zI (fun a => m_state_count a))) (C_is_spoilt : Cal P w K mg base "is_spoilt" 1 ["pairs", "bad", "rounds", "number"] (spP K cl (rsC (rK (rP (rsC zI (rs1 zI)))) (rsC (rK zI) (rsC (rK (rO zI)) (rs1 zI)))) rB (fun a => m_is_spoilt (a.1) (a.2.1) (a.2.2.1) (a.2.2.2)))) (C_outcomes : Cal P w K mg base "outcomes" 1 ["table", "driver_count", "state", "move"] (spP K cl (rsC (rP (rsC zI (rsC zI (rs1 (rT (rT (rP (rsC zI (rs1 zI))))))))) (rsC zI (rsC zI (rs1 zI)))) (rK (rP (rsC zI (rs1 zI)))) (fun a => m_outcomes (a.1) (a.2.1) (a.2.2.1) (a.2.2.2)))) :
    FnOk P w K mg base (L2.CX P w) 2 fa fd ["table", "driver_count", "bad", "rounds"] (spP K cl (rsC (rP (rsC zI (rsC zI (rs1 (rT (rT (rP (rsC zI (rs1 zI))))))))) (rsC zI (rsC (rK zI) (rs1 (rK (rO zI)))))) rB (fun a => m_shows_lost (a.1) (a.2.1) (a.2.2.1) (a.2.2.2))) := by
  refine F.okX sc_shows_lost (fun vs H Q E h => ?_) (fun cdv A outer s H vs Q E hr h => ?_)
  · obtain ⟨G, a, _, hS, _⟩ := h
    exact (lnC (lnC (lnC ln1))) _ _ _ _ hS
  · obtain ⟨G, ⟨p_table, p_driver_count, p_bad, p_rounds⟩, hg, hS, hm⟩ := h
    obtain ⟨v_p_table, _, rfl, h_p_table, v_p_driver_count, _, rfl, h_p_driver_count, v_p_bad, _, rfl, h_p_bad, v_p_rounds, rfl, h_p_rounds⟩ := hS
    cases (show v_p_driver_count = V.int p_driver_count from h_p_driver_count)
    have tk : Takes (cxOf (L2.CX P w) P w K mg base N_shows_lost "shows_lost" (defScope s_shows_lost) fa cdv A outer s H E) (fun cls d _ H => E cls d H) := takes_of rfl rfl rfl rfl
    refine ⟨_, (pss_cons (ps_expr (pe_call (E := E) C_check_driver.ok (hr.mono (by decide)) rfl C_check_driver.mgx C_check_driver.kp C_check_driver.bd .nil (passes_call tk (fun _ _ _ _ h => h)) (pa_cons (pv 0) (pa_cons (pv 1) pa_nil))))
     (pss_cons (ps_if (PW.pt (pw_or (pt_cmpR op_ne (pe_callB (r := rLen K) call_len (by rfl) T.n_len b_len (pa_cons (pv 3) pa_nil)) (pe_call (E := E) C_state_count.ok (hr.mono (by decide)) rfl C_state_count.mgx C_state_count.kp C_state_count.bd .nil (passes_call tk (fun _ _ _ _ h => h)) (pa_cons (pv 0) pa_nil)) (nomark _)) (pw_or1 (pt_cmpR op_isN (pe_ix (r := rIxL K) ix_list (pv 3) pe_int (fun _ _ => rfl)) pe_non (nomark _))))) (pss_cons (ps_ret pe_bl)
     pss_nil) pss_nil)
     (pss_cons (ps_for (passes_of rfl) rfl (pi_enum (by rfl) T.n_enumerate (pa_cons (pv 3) pa_nil)) (show PG _ _ (gTup K 2 _) from pg_tup rfl (pgs_cons (pg_name (i := 4) sc_shows_lost.nd rfl (by first | exact Or.inl rfl | exact Or.inr rfl)) (pgs_cons (pg_name (i := 5) sc_shows_lost.nd rfl (by first | exact Or.inl rfl | exact Or.inr rfl)) pgs_nil))) (pss_cons (ps_if (pt_cmpR op_notN (pv 5) pe_non (nomark _)) (pss_cons (ps_if (pt_cmpR op_lt (pv 5) pe_int (nomark _)) (pss_cons (ps_ret pe_bl)
     pss_nil) pss_nil)
     (pss_cons (ps_for (passes_of rfl) rfl (pi_range1 rfl T.n_range (pa_cons (pe_op op_shl pe_int (pv 1)) pa_nil)) (pg_name (i := 6) sc_shows_lost.nd rfl (by first | exact Or.inl rfl | exact Or.inr rfl)) (pss_cons (ps_if (pt_not (pt_val (pe_call (E := E) C_is_spoilt.ok (hr.mono (by decide)) rfl C_is_spoilt.mgx C_is_spoilt.kp C_is_spoilt.bd .nil (passes_call tk (fun _ _ _ _ h => h)) (pa_cons (pe_call (E := E) C_outcomes.ok (hr.mono (by decide)) rfl C_outcomes.mgx C_outcomes.kp C_outcomes.bd .nil (passes_call tk (fun _ _ _ _ h => h)) (pa_cons (pv 0) (pa_cons (pv 1) (pa_cons (pv 4) (pa_cons (pv 6) pa_nil))))) (pa_cons (pv 2) (pa_cons (pv 3) (pa_cons (pv 5) pa_nil))))))) (pss_cons (ps_ret pe_bl)
     pss_nil) pss_nil)
     pss_nil))
     pss_nil)) pss_nil)
     pss_nil))
     (pss_cons (ps_ret pe_bl)
     pss_nil)))), ?_⟩
    have hs : Hs ⟨H, G, E, cl⟩ G [] H := Hs.start hg
    have hm := Wp.ofSp (G0 := G) hm
    dsimp only at hm
    unfold m_shows_lost at hm
    refine (show (_ : TS) _ ([some v_p_table, some (.int p_driver_count), some v_p_bad, some v_p_rounds, none, none, none] : L2.St) _ from ?_)
    refine w_drop (K := K) (e_call (fm := ⟨H, G, E, cl⟩) (a_cons (e_var (K := K) (i := 0) (R := (rP (rsC zI (rsC zI (rs1 (rT (rT (rP (rsC zI (rs1 zI)))))))))) (x := p_table) rfl h_p_table) (a_one (e_var (K := K) (i := 1) (R := zI) (x := p_driver_count) rfl rfl)))) hs hm (fun x1 G1 H1 e1 hs hm => ?_)
    have h_p_table := ((rP (rsC zI (rsC zI (rs1 (rT (rT (rP (rsC zI (rs1 zI)))))))))).mono e1 h_p_table
    have h_p_bad := ((rK zI)).mono e1 h_p_bad
    have h_p_rounds := ((rK (rO zI))).mono e1 h_p_rounds
    refine w_if (t_or (t_test (K := K) (e_ne srI (e_len sq_K (e_var (K := K) (i := 3) (R := (rK (rO zI))) (x := p_rounds) rfl h_p_rounds)) (e_call (fm := ⟨H, G, E, cl⟩) (a_one (e_var (K := K) (i := 0) (R := (rP (rsC zI (rsC zI (rs1 (rT (rT (rP (rsC zI (rs1 zI)))))))))) (x := p_table) rfl h_p_table))))) (t_test (K := K) (e_isN (e_ixL (e_KL (e_var (K := K) (i := 3) (R := (rK (rO zI))) (x := p_rounds) rfl h_p_rounds)) e_int)))) hs hm (fun G2 H2 e2 hs hm => ?_) (fun G2 H2 e2 hs hm => ?_)
    · have h_p_table := ((rP (rsC zI (rsC zI (rs1 (rT (rT (rP (rsC zI (rs1 zI)))))))))).mono e2 h_p_table
      have h_p_bad := ((rK zI)).mono e2 h_p_bad
      have h_p_rounds := ((rK (rO zI))).mono e2 h_p_rounds
      exact w_ret0 (K := K) e_bl hs hm fun r v G2 H2 hs2 hr2 hq => hq v G2 H2 hs2.fin hr2
    · have h_p_table := ((rP (rsC zI (rsC zI (rs1 (rT (rT (rP (rsC zI (rs1 zI)))))))))).mono e2 h_p_table
      have h_p_bad := ((rK zI)).mono e2 h_p_bad
      have h_p_rounds := ((rK (rO zI))).mono e2 h_p_rounds
      refine nx_of ?_
      refine (show (_ : TS) _ ([some v_p_table, some (.int p_driver_count), some v_p_bad, some v_p_rounds, none, none, none] : L2.St) _ from ?_)
      refine w_forB (K := K) (Rr := rB) (fun (_ : Unit) (σ : L2.St) (G : Hp) (O : Own) => ∃ (d_4 : Option V) (d_5 : Option V) (d_6 : Option V), σ = [some v_p_table, some (.int p_driver_count), some v_p_bad, some v_p_rounds, d_4, d_5, d_6] ∧ O = []) (i_enum (e_KL (e_var (K := K) (i := 3) (R := (rK (rO zI))) (x := p_rounds) rfl h_p_rounds))) (fun _ _ _ _ _ _ h => nomatch h) (tg_tup2) hs hm ⟨none, none, none, rfl, rfl⟩ (fun r v G2 O2 H2 hs2 hr2 hq => hq v G2 H2 hs2.fin hr2) (fun x3 s_ σ_ G1_3 G3 O_ H3 vv3 D3 Qb3 e3 w_ e13 hs hv3 E3 hm => ?_) (fun s_ σ_ G1_3 G3 O_ H3 e3 w_ e13 hs hm => ?_)
      · obtain ⟨d_4, d_5, d_6, rfl, rfl⟩ := w_
        have h_p_table := ((rP (rsC zI (rsC zI (rs1 (rT (rT (rP (rsC zI (rs1 zI)))))))))).mono e3 h_p_table
        have h_p_bad := ((rK zI)).mono e3 h_p_bad
        have h_p_rounds := ((rK (rO zI))).mono e3 h_p_rounds
        obtain ⟨p_state, p_number⟩ := x3
        obtain ⟨v_p_state, _, rfl, h_p_state, v_p_number, rfl, h_p_number⟩ := hv3
        cases (show v_p_state = V.int p_state from h_p_state)
        have b3 := Same.refl G3
        refine (show (_ : TS) _ ([some v_p_table, some (.int p_driver_count), some v_p_bad, some v_p_rounds, some (.int p_state), some v_p_number, d_6] : L2.St) _ from ?_)
        unfold m_shows_lost_b9 at hm
        try dsimp only at hm
        refine w_if (t_test (K := K) (e_notN (e_var (K := K) (i := 5) (R := (rO zI)) (x := p_number) rfl h_p_number))) hs hm (fun G4 H4 e4 hs hm => ?_) (fun G4 H4 e4 hs hm => ?_)
        · have h_p_table := ((rP (rsC zI (rsC zI (rs1 (rT (rT (rP (rsC zI (rs1 zI)))))))))).mono e4 h_p_table
          have h_p_bad := ((rK zI)).mono e4 h_p_bad
          have h_p_rounds := ((rK (rO zI))).mono e4 h_p_rounds
          have h_p_number := ((rO zI)).mono e4 h_p_number
          have b3 := Same.trans b3 e4
          refine w_if (t_test (K := K) (e_cmp (p := fun i j => decide (i < j)) (e_get (e_var (K := K) (i := 5) (R := (rO zI)) (x := p_number) rfl h_p_number)) e_int)) hs hm (fun G5 H5 e5 hs hm => ?_) (fun G5 H5 e5 hs hm => ?_)
          · have h_p_table := ((rP (rsC zI (rsC zI (rs1 (rT (rT (rP (rsC zI (rs1 zI)))))))))).mono e5 h_p_table
            have h_p_bad := ((rK zI)).mono e5 h_p_bad
            have h_p_rounds := ((rK (rO zI))).mono e5 h_p_rounds
            have h_p_number := ((rO zI)).mono e5 h_p_number
            have b3 := Same.trans b3 e5
            exact w_ret (K := K) (kr := Tn.rt) e_bl hs hm fun r v G2 H2 hs2 hr2 hq => E3.rt r v _ _ _ hs2 hr2 hq
          · have h_p_table := ((rP (rsC zI (rsC zI (rs1 (rT (rT (rP (rsC zI (rs1 zI)))))))))).mono e5 h_p_table
            have h_p_bad := ((rK zI)).mono e5 h_p_bad
            have h_p_rounds := ((rK (rO zI))).mono e5 h_p_rounds
            have h_p_number := ((rO zI)).mono e5 h_p_number
            have b3 := Same.trans b3 e5
            refine nx_of ?_
            refine (show (_ : TS) _ ([some v_p_table, some (.int p_driver_count), some v_p_bad, some v_p_rounds, some (.int p_state), some v_p_number, d_6] : L2.St) _ from ?_)
            refine w_forB (K := K) (Rr := rB) (fun (_ : Unit) (σ : L2.St) (G : Hp) (O : Own) => ∃ (d_6 : Option V), σ = [some v_p_table, some (.int p_driver_count), some v_p_bad, some v_p_rounds, some (.int p_state), some v_p_number, d_6] ∧ O = []) (i_rng1 (e_shl e_int (e_var (K := K) (i := 1) (R := zI) (x := p_driver_count) rfl rfl))) (fun _ _ _ _ _ _ h => nomatch h) (tg_name (i := 6) (R := zI)) hs hm ⟨d_6, rfl, rfl⟩ (fun r v G2 O2 H2 hs2 hr2 hq => E3.rt r v _ _ _ hs2 hr2 hq) (fun p_move s_ σ_ G1_6 G6 O_ H6 vv6 D6 Qb6 e6 w_ e16 hs hv6 E6 hm => ?_) (fun s_ σ_ G1_6 G6 O_ H6 e6 w_ e16 hs hm => ?_)
            · obtain ⟨d_6, rfl, rfl⟩ := w_
              have h_p_table := ((rP (rsC zI (rsC zI (rs1 (rT (rT (rP (rsC zI (rs1 zI)))))))))).mono e6 h_p_table
              have h_p_bad := ((rK zI)).mono e6 h_p_bad
              have h_p_rounds := ((rK (rO zI))).mono e6 h_p_rounds
              have h_p_number := ((rO zI)).mono e6 h_p_number
              obtain ⟨v_p_move, rfl, h_p_move⟩ := hv6
              cases (show v_p_move = V.int p_move from h_p_move)
              have b6 := Same.refl G6
              refine (show (_ : TS) _ ([some v_p_table, some (.int p_driver_count), some v_p_bad, some v_p_rounds, some (.int p_state), some v_p_number, some (.int p_move)] : L2.St) _ from ?_)
              unfold m_shows_lost_b8 at hm
              try dsimp only at hm
              refine w_if (t_not (t_val (K := K) (e_call (fm := ⟨H, G, E, cl⟩) (a_cons (e_call (fm := ⟨H, G, E, cl⟩) (a_cons (e_var (K := K) (i := 0) (R := (rP (rsC zI (rsC zI (rs1 (rT (rT (rP (rsC zI (rs1 zI)))))))))) (x := p_table) rfl h_p_table) (a_cons (e_var (K := K) (i := 1) (R := zI) (x := p_driver_count) rfl rfl) (a_cons (e_var (K := K) (i := 4) (R := zI) (x := p_state) rfl rfl) (a_one (e_var (K := K) (i := 6) (R := zI) (x := p_move) rfl rfl)))))) (a_cons (e_var (K := K) (i := 2) (R := (rK zI)) (x := p_bad) rfl h_p_bad) (a_cons (e_var (K := K) (i := 3) (R := (rK (rO zI))) (x := p_rounds) rfl h_p_rounds) (a_one (e_get (e_var (K := K) (i := 5) (R := (rO zI)) (x := p_number) rfl h_p_number))))))))) hs hm (fun G7 H7 e7 hs hm => ?_) (fun G7 H7 e7 hs hm => ?_)
              · have h_p_table := ((rP (rsC zI (rsC zI (rs1 (rT (rT (rP (rsC zI (rs1 zI)))))))))).mono e7 h_p_table
                have h_p_bad := ((rK zI)).mono e7 h_p_bad
                have h_p_rounds := ((rK (rO zI))).mono e7 h_p_rounds
                have h_p_number := ((rO zI)).mono e7 h_p_number
                have b6 := Same.trans b6 e7
                exact w_ret (K := K) (kr := Tn.rt) e_bl hs hm fun r v G2 H2 hs2 hr2 hq => E6.rt r v _ _ _ hs2 hr2 hq
              · have h_p_table := ((rP (rsC zI (rsC zI (rs1 (rT (rT (rP (rsC zI (rs1 zI)))))))))).mono e7 h_p_table
                have h_p_bad := ((rK zI)).mono e7 h_p_bad
                have h_p_rounds := ((rK (rO zI))).mono e7 h_p_rounds
                have h_p_number := ((rO zI)).mono e7 h_p_number
                have b6 := Same.trans b6 e7
                refine nx_of ?_
                refine (show (_ : TS) _ ([some v_p_table, some (.int p_driver_count), some v_p_bad, some v_p_rounds, some (.int p_state), some v_p_number, some (.int p_move)] : L2.St) _ from ?_)
                exact E6.nx () _ _ _ _ _ b6 ⟨some (.int p_move), rfl, rfl⟩ (Same.refl _) hs hm.out
            · obtain ⟨d_6, rfl, rfl⟩ := w_
              have h_p_table := ((rP (rsC zI (rsC zI (rs1 (rT (rT (rP (rsC zI (rs1 zI)))))))))).mono e6 h_p_table
              have h_p_bad := ((rK zI)).mono e6 h_p_bad
              have h_p_rounds := ((rK (rO zI))).mono e6 h_p_rounds
              have h_p_number := ((rO zI)).mono e6 h_p_number
              have b3 := Same.trans b3 e6
              refine (show (_ : TS) _ ([some v_p_table, some (.int p_driver_count), some v_p_bad, some v_p_rounds, some (.int p_state), some v_p_number, d_6] : L2.St) _ from ?_)
              try dsimp only at hm
              refine nx_of ?_
              refine (show (_ : TS) _ ([some v_p_table, some (.int p_driver_count), some v_p_bad, some v_p_rounds, some (.int p_state), some v_p_number, d_6] : L2.St) _ from ?_)
              exact E3.nx () _ _ _ _ _ b3 ⟨some (.int p_state), some v_p_number, d_6, rfl, rfl⟩ (Same.refl _) hs hm.out
        · have h_p_table := ((rP (rsC zI (rsC zI (rs1 (rT (rT (rP (rsC zI (rs1 zI)))))))))).mono e4 h_p_table
          have h_p_bad := ((rK zI)).mono e4 h_p_bad
          have h_p_rounds := ((rK (rO zI))).mono e4 h_p_rounds
          have h_p_number := ((rO zI)).mono e4 h_p_number
          have b3 := Same.trans b3 e4
          refine nx_of ?_
          refine (show (_ : TS) _ ([some v_p_table, some (.int p_driver_count), some v_p_bad, some v_p_rounds, some (.int p_state), some v_p_number, d_6] : L2.St) _ from ?_)
          exact E3.nx () _ _ _ _ _ b3 ⟨some (.int p_state), some v_p_number, d_6, rfl, rfl⟩ (Same.refl _) hs hm.out
      · obtain ⟨d_4, d_5, d_6, rfl, rfl⟩ := w_
        have h_p_table := ((rP (rsC zI (rsC zI (rs1 (rT (rT (rP (rsC zI (rs1 zI)))))))))).mono e3 h_p_table
        have h_p_bad := ((rK zI)).mono e3 h_p_bad
        have h_p_rounds := ((rK (rO zI))).mono e3 h_p_rounds
        refine (show (_ : TS) _ ([some v_p_table, some (.int p_driver_count), some v_p_bad, some v_p_rounds, d_4, d_5, d_6] : L2.St) _ from ?_)
        try dsimp only at hm
        exact w_ret0 (K := K) e_bl hs hm fun r v G2 H2 hs2 hr2 hq => hq v G2 H2 hs2.fin hr2

theorem ok_check_moves {P : Program} {w : World} {K : PySem.W.Frag} {mg : Str → Option Value} {base : Heap} {cl : Nat → Addr} {fa : Addr} {fd : FuncData} (F : Fun K "check_moves" "check_moves" s_check_moves fa fd) (T : Txt K mg cl) (C_state_count : Cal P w K mg base "state_count" 1 ["table"] (spP K cl (rs1 (rP (rsC zI (rsC zI (rs1 (rT (rT (rP (rsC zI (rs1 zI)))))))))) zI (fun a => m_state_count a))) (C_is_move : Cal P w K mg base "is_move" 1 ["driver_count", "move"] (spP K cl (rsC zI (rs1 zI)) rB (fun a => m_is_move (a.1) (a.2)))) (C_outcomes : Cal P w K mg base "outcomes" 1 ["table", "driver_count", "state", "move"] (spP K cl (rsC (rP (rsC zI (rsC zI (rs1 (rT (rT (rP (rsC zI (rs1 zI))))))))) (rsC zI (rsC zI (rs1 zI)))) (rK (rP (rsC zI (rs1 zI)))) (fun a => m_outcomes (a.1) (a.2.1) (a.2.2.1) (a.2.2.2)))) :
    FnOk P w K mg base (L2.CX P w) 2 fa fd ["table", "driver_count", "moves"] (spP K cl (rsC (rP (rsC zI (rsC zI (rs1 (rT (rT (rP (rsC zI (rs1 zI))))))))) (rsC zI (rs1 (rK (rO zI))))) rN (fun a => m_check_moves (a.1) (a.2.1) (a.2.2))) := by
  refine F.okX sc_check_moves (fun vs H Q E h => ?_) (fun cdv A outer s H vs Q E hr h => ?_)
  · obtain ⟨G, a, _, hS, _⟩ := h
    exact (lnC (lnC ln1)) _ _ _ _ hS
  · obtain ⟨G, ⟨p_table, p_driver_count, p_moves⟩, hg, hS, hm⟩ := h
    obtain ⟨v_p_table, _, rfl, h_p_table, v_p_driver_count, _, rfl, h_p_driver_count, v_p_moves, rfl, h_p_moves⟩ := hS
    cases (show v_p_driver_count = V.int p_driver_count from h_p_driver_count)
    have tk : Takes (cxOf (L2.CX P w) P w K mg base N_check_moves "check_moves" (defScope s_check_moves) fa cdv A outer s H E) (fun cls d _ H => E cls d H) := takes_of rfl rfl rfl rfl
    refine ⟨_, (pss_cons (ps_if (PW.pt (pw_or (pt_cmpR op_ne (pe_callB (r := rLen K) call_len (by rfl) T.n_len b_len (pa_cons (pv 2) pa_nil)) (pe_call (E := E) C_state_count.ok (hr.mono (by decide)) rfl C_state_count.mgx C_state_count.kp C_state_count.bd .nil (passes_call tk (fun _ _ _ _ h => h)) (pa_cons (pv 0) pa_nil)) (nomark _)) (pw_or1 (pt_cmpR op_isN (pe_ix (r := rIxL K) ix_list (pv 2) pe_int (fun _ _ => rfl)) pe_non (nomark _))))) (pss_cons (ps_raise rfl tk (pmk_own PySem.F.excBase_ValueError T.x_1 T.g_1 T.k_1 (raises_own T.b_1 T.t_1) (by exact rfl)))
     pss_nil) pss_nil)
     (pss_cons (ps_for (passes_of rfl) rfl (pi_list (pv 2)) (pg_name (i := 3) sc_check_moves.nd rfl (by first | exact Or.inl rfl | exact Or.inr rfl)) (pss_cons (ps_if (PW.pt (pw_and (pt_cmpR op_notN (pv 3) pe_non (nomark _)) (pw_and1 (pt_not (pt_val (pe_call (E := E) C_is_move.ok (hr.mono (by decide)) rfl C_is_move.mgx C_is_move.kp C_is_move.bd .nil (passes_call tk (fun _ _ _ _ h => h)) (pa_cons (pv 1) (pa_cons (pv 3) pa_nil)))))))) (pss_cons (ps_raise rfl tk (pmk_own PySem.F.excBase_ValueError T.x_1 T.g_1 T.k_1 (raises_own T.b_1 T.t_1) (by exact rfl)))
     pss_nil) pss_nil)
     pss_nil))
     (pss_cons (ps_for (passes_of rfl) rfl (pi_enum (by rfl) T.n_enumerate (pa_cons (pv 2) pa_nil)) (show PG _ _ (gTup K 2 _) from pg_tup rfl (pgs_cons (pg_name (i := 4) sc_check_moves.nd rfl (by first | exact Or.inl rfl | exact Or.inr rfl)) (pgs_cons (pg_name (i := 3) sc_check_moves.nd rfl (by first | exact Or.inl rfl | exact Or.inr rfl)) pgs_nil))) (pss_cons (ps_if (pt_cmpR op_notN (pv 3) pe_non (nomark _)) (pss_cons (ps_for (passes_of rfl) rfl (pi_list (pe_call (E := E) C_outcomes.ok (hr.mono (by decide)) rfl C_outcomes.mgx C_outcomes.kp C_outcomes.bd .nil (passes_call tk (fun _ _ _ _ h => h)) (pa_cons (pv 0) (pa_cons (pv 1) (pa_cons (pv 4) (pa_cons (pv 3) pa_nil)))))) (show PG _ _ (gTup K 2 _) from pg_tup rfl (pgs_cons (pg_name (i := 5) sc_check_moves.nd rfl (by first | exact Or.inl rfl | exact Or.inr rfl)) (pgs_cons (pg_name (i := 6) sc_check_moves.nd rfl (by first | exact Or.inl rfl | exact Or.inr rfl)) pgs_nil))) (pss_cons (ps_if (pt_cmpR op_isN (pe_ix (r := rIxL K) ix_list (pv 2) (pv 5) (fun _ _ => rfl)) pe_non (nomark _)) (pss_cons (ps_raise rfl tk (pmk_own PySem.F.excBase_ValueError T.x_1 T.g_1 T.k_1 (raises_own T.b_1 T.t_1) (by exact rfl)))
     pss_nil) pss_nil)
     pss_nil))
     pss_nil) pss_nil)
     pss_nil))
     pss_nil))), ?_⟩
    have hs : Hs ⟨H, G, E, cl⟩ G [] H := Hs.start hg
    have hm := Wp.ofSp (G0 := G) hm
    dsimp only at hm
    unfold m_check_moves at hm
    refine (show (_ : TS) _ ([some v_p_table, some (.int p_driver_count), some v_p_moves, none, none, none, none] : L2.St) _ from ?_)
    refine w_if (t_or (t_test (K := K) (e_ne srI (e_len sq_K (e_var (K := K) (i := 2) (R := (rK (rO zI))) (x := p_moves) rfl h_p_moves)) (e_call (fm := ⟨H, G, E, cl⟩) (a_one (e_var (K := K) (i := 0) (R := (rP (rsC zI (rsC zI (rs1 (rT (rT (rP (rsC zI (rs1 zI)))))))))) (x := p_table) rfl h_p_table))))) (t_test (K := K) (e_isN (e_ixL (e_KL (e_var (K := K) (i := 2) (R := (rK (rO zI))) (x := p_moves) rfl h_p_moves)) e_int)))) hs hm (fun G1 H1 e1 hs hm => ?_) (fun G1 H1 e1 hs hm => ?_)
    · have h_p_table := ((rP (rsC zI (rsC zI (rs1 (rT (rT (rP (rsC zI (rs1 zI)))))))))).mono e1 h_p_table
      have h_p_moves := ((rK (rO zI))).mono e1 h_p_moves
      exact hm.out _ none hs.fr rfl
    · have h_p_table := ((rP (rsC zI (rsC zI (rs1 (rT (rT (rP (rsC zI (rs1 zI)))))))))).mono e1 h_p_table
      have h_p_moves := ((rK (rO zI))).mono e1 h_p_moves
      refine nx_of ?_
      refine (show (_ : TS) _ ([some v_p_table, some (.int p_driver_count), some v_p_moves, none, none, none, none] : L2.St) _ from ?_)
      refine w_forM (K := K) (fun (_ : Unit) (σ : L2.St) (G : Hp) (O : Own) => ∃ (d_3 : Option V), σ = [some v_p_table, some (.int p_driver_count), some v_p_moves, d_3, none, none, none] ∧ O = []) (i_list (e_KL (e_var (K := K) (i := 2) (R := (rK (rO zI))) (x := p_moves) rfl h_p_moves))) (fun _ _ _ _ _ _ h => nomatch h) (tg_name (i := 3) (R := (rO zI))) hs hm ⟨none, rfl, rfl⟩ (fun p_move s_ σ_ G1_2 G2 O_ H2 vv2 D2 Qb2 e2 w_ e12 hs hv2 E2 hm => ?_) (fun s_ σ_ G1_2 G2 O_ H2 e2 w_ e12 hs hm => ?_)
      · obtain ⟨d_3, rfl, rfl⟩ := w_
        have h_p_table := ((rP (rsC zI (rsC zI (rs1 (rT (rT (rP (rsC zI (rs1 zI)))))))))).mono e2 h_p_table
        have h_p_moves := ((rK (rO zI))).mono e2 h_p_moves
        obtain ⟨v_p_move, rfl, h_p_move⟩ := hv2
        have b2 := Same.refl G2
        refine (show (_ : TS) _ ([some v_p_table, some (.int p_driver_count), some v_p_moves, some v_p_move, none, none, none] : L2.St) _ from ?_)
        unfold m_check_moves_b10 at hm
        try dsimp only at hm
        refine w_if (t_and (t_test (K := K) (e_notN (e_var (K := K) (i := 3) (R := (rO zI)) (x := p_move) rfl h_p_move))) (t_not (t_val (K := K) (e_call (fm := ⟨H, G, E, cl⟩) (a_cons (e_var (K := K) (i := 1) (R := zI) (x := p_driver_count) rfl rfl) (a_one (e_get (e_var (K := K) (i := 3) (R := (rO zI)) (x := p_move) rfl h_p_move)))))))) hs hm (fun G3 H3 e3 hs hm => ?_) (fun G3 H3 e3 hs hm => ?_)
        · have h_p_table := ((rP (rsC zI (rsC zI (rs1 (rT (rT (rP (rsC zI (rs1 zI)))))))))).mono e3 h_p_table
          have h_p_moves := ((rK (rO zI))).mono e3 h_p_moves
          have h_p_move := ((rO zI)).mono e3 h_p_move
          have b2 := Same.trans b2 e3
          exact hm.out _ none hs.fr rfl
        · have h_p_table := ((rP (rsC zI (rsC zI (rs1 (rT (rT (rP (rsC zI (rs1 zI)))))))))).mono e3 h_p_table
          have h_p_moves := ((rK (rO zI))).mono e3 h_p_moves
          have h_p_move := ((rO zI)).mono e3 h_p_move
          have b2 := Same.trans b2 e3
          refine nx_of ?_
          refine (show (_ : TS) _ ([some v_p_table, some (.int p_driver_count), some v_p_moves, some v_p_move, none, none, none] : L2.St) _ from ?_)
          exact E2.nx () _ _ _ _ _ b2 ⟨some v_p_move, rfl, rfl⟩ (Same.refl _) hs hm.out
      · obtain ⟨d_3, rfl, rfl⟩ := w_
        have h_p_table := ((rP (rsC zI (rsC zI (rs1 (rT (rT (rP (rsC zI (rs1 zI)))))))))).mono e2 h_p_table
        have h_p_moves := ((rK (rO zI))).mono e2 h_p_moves
        refine (show (_ : TS) _ ([some v_p_table, some (.int p_driver_count), some v_p_moves, d_3, none, none, none] : L2.St) _ from ?_)
        try dsimp only at hm
        refine w_forM (K := K) (fun (_ : Unit) (σ : L2.St) (G : Hp) (O : Own) => ∃ (d_4 : Option V) (d_3 : Option V) (d_5 : Option V) (d_6 : Option V), σ = [some v_p_table, some (.int p_driver_count), some v_p_moves, d_3, d_4, d_5, d_6] ∧ O = []) (i_enum (e_KL (e_var (K := K) (i := 2) (R := (rK (rO zI))) (x := p_moves) rfl h_p_moves))) (fun _ _ _ _ _ _ h => nomatch h) (tg_tup2) hs hm ⟨none, d_3, none, none, rfl, rfl⟩ (fun x4 s_ σ_ G1_4 G4 O_ H4 vv4 D4 Qb4 e4 w_ e14 hs hv4 E4 hm => ?_) (fun s_ σ_ G1_4 G4 O_ H4 e4 w_ e14 hs hm => ?_)
        · obtain ⟨d_4, d_3, d_5, d_6, rfl, rfl⟩ := w_
          have h_p_table := ((rP (rsC zI (rsC zI (rs1 (rT (rT (rP (rsC zI (rs1 zI)))))))))).mono e4 h_p_table
          have h_p_moves := ((rK (rO zI))).mono e4 h_p_moves
          obtain ⟨p_state, p_move⟩ := x4
          obtain ⟨v_p_state, _, rfl, h_p_state, v_p_move, rfl, h_p_move⟩ := hv4
          cases (show v_p_state = V.int p_state from h_p_state)
          have b4 := Same.refl G4
          refine (show (_ : TS) _ ([some v_p_table, some (.int p_driver_count), some v_p_moves, some v_p_move, some (.int p_state), d_5, d_6] : L2.St) _ from ?_)
          unfold m_check_moves_b9 at hm
          try dsimp only at hm
          refine w_if (t_test (K := K) (e_notN (e_var (K := K) (i := 3) (R := (rO zI)) (x := p_move) rfl h_p_move))) hs hm (fun G5 H5 e5 hs hm => ?_) (fun G5 H5 e5 hs hm => ?_)
          · have h_p_table := ((rP (rsC zI (rsC zI (rs1 (rT (rT (rP (rsC zI (rs1 zI)))))))))).mono e5 h_p_table
            have h_p_moves := ((rK (rO zI))).mono e5 h_p_moves
            have h_p_move := ((rO zI)).mono e5 h_p_move
            have b4 := Same.trans b4 e5
            refine w_forM (K := K) (fun (_ : Unit) (σ : L2.St) (G : Hp) (O : Own) => ∃ (d_5 : Option V) (d_6 : Option V), σ = [some v_p_table, some (.int p_driver_count), some v_p_moves, some v_p_move, some (.int p_state), d_5, d_6] ∧ O = []) (i_list (e_KL (e_call (fm := ⟨H, G, E, cl⟩) (a_cons (e_var (K := K) (i := 0) (R := (rP (rsC zI (rsC zI (rs1 (rT (rT (rP (rsC zI (rs1 zI)))))))))) (x := p_table) rfl h_p_table) (a_cons (e_var (K := K) (i := 1) (R := zI) (x := p_driver_count) rfl rfl) (a_cons (e_var (K := K) (i := 4) (R := zI) (x := p_state) rfl rfl) (a_one (e_get (e_var (K := K) (i := 3) (R := (rO zI)) (x := p_move) rfl h_p_move))))))))) (fun _ _ _ _ _ _ h => nomatch h) (tg_tup2) hs hm ⟨d_5, d_6, rfl, rfl⟩ (fun x6 s_ σ_ G1_6 G6 O_ H6 vv6 D6 Qb6 e6 w_ e16 hs hv6 E6 hm => ?_) (fun s_ σ_ G1_6 G6 O_ H6 e6 w_ e16 hs hm => ?_)
            · obtain ⟨d_5, d_6, rfl, rfl⟩ := w_
              have h_p_table := ((rP (rsC zI (rsC zI (rs1 (rT (rT (rP (rsC zI (rs1 zI)))))))))).mono e6 h_p_table
              have h_p_moves := ((rK (rO zI))).mono e6 h_p_moves
              have h_p_move := ((rO zI)).mono e6 h_p_move
              obtain ⟨p_target, p_⟩ := x6
              obtain ⟨v_p_target, _, rfl, h_p_target, v_p_, rfl, h_p_⟩ := hv6
              cases (show v_p_target = V.int p_target from h_p_target)
              cases (show v_p_ = V.int p_ from h_p_)
              have b6 := Same.refl G6
              refine (show (_ : TS) _ ([some v_p_table, some (.int p_driver_count), some v_p_moves, some v_p_move, some (.int p_state), some (.int p_target), some (.int p_)] : L2.St) _ from ?_)
              unfold m_check_moves_b8 at hm
              try dsimp only at hm
              refine w_if (t_test (K := K) (e_isN (e_ixL (e_KL (e_var (K := K) (i := 2) (R := (rK (rO zI))) (x := p_moves) rfl h_p_moves)) (e_var (K := K) (i := 5) (R := zI) (x := p_target) rfl rfl)))) hs hm (fun G7 H7 e7 hs hm => ?_) (fun G7 H7 e7 hs hm => ?_)
              · have h_p_table := ((rP (rsC zI (rsC zI (rs1 (rT (rT (rP (rsC zI (rs1 zI)))))))))).mono e7 h_p_table
                have h_p_moves := ((rK (rO zI))).mono e7 h_p_moves
                have h_p_move := ((rO zI)).mono e7 h_p_move
                have b6 := Same.trans b6 e7
                exact hm.out _ none hs.fr rfl
              · have h_p_table := ((rP (rsC zI (rsC zI (rs1 (rT (rT (rP (rsC zI (rs1 zI)))))))))).mono e7 h_p_table
                have h_p_moves := ((rK (rO zI))).mono e7 h_p_moves
                have h_p_move := ((rO zI)).mono e7 h_p_move
                have b6 := Same.trans b6 e7
                refine nx_of ?_
                refine (show (_ : TS) _ ([some v_p_table, some (.int p_driver_count), some v_p_moves, some v_p_move, some (.int p_state), some (.int p_target), some (.int p_)] : L2.St) _ from ?_)
                exact E6.nx () _ _ _ _ _ b6 ⟨some (.int p_target), some (.int p_), rfl, rfl⟩ (Same.refl _) hs hm.out
            · obtain ⟨d_5, d_6, rfl, rfl⟩ := w_
              have h_p_table := ((rP (rsC zI (rsC zI (rs1 (rT (rT (rP (rsC zI (rs1 zI)))))))))).mono e6 h_p_table
              have h_p_moves := ((rK (rO zI))).mono e6 h_p_moves
              have h_p_move := ((rO zI)).mono e6 h_p_move
              have b4 := Same.trans b4 e6
              refine (show (_ : TS) _ ([some v_p_table, some (.int p_driver_count), some v_p_moves, some v_p_move, some (.int p_state), d_5, d_6] : L2.St) _ from ?_)
              try dsimp only at hm
              refine nx_of ?_
              refine (show (_ : TS) _ ([some v_p_table, some (.int p_driver_count), some v_p_moves, some v_p_move, some (.int p_state), d_5, d_6] : L2.St) _ from ?_)
              exact E4.nx () _ _ _ _ _ b4 ⟨some (.int p_state), some v_p_move, d_5, d_6, rfl, rfl⟩ (Same.refl _) hs hm.out
          · have h_p_table := ((rP (rsC zI (rsC zI (rs1 (rT (rT (rP (rsC zI (rs1 zI)))))))))).mono e5 h_p_table
            have h_p_moves := ((rK (rO zI))).mono e5 h_p_moves
            have h_p_move := ((rO zI)).mono e5 h_p_move
            have b4 := Same.trans b4 e5
            refine nx_of ?_
            refine (show (_ : TS) _ ([some v_p_table, some (.int p_driver_count), some v_p_moves, some v_p_move, some (.int p_state), d_5, d_6] : L2.St) _ from ?_)
            exact E4.nx () _ _ _ _ _ b4 ⟨some (.int p_state), some v_p_move, d_5, d_6, rfl, rfl⟩ (Same.refl _) hs hm.out
        · obtain ⟨d_4, d_3, d_5, d_6, rfl, rfl⟩ := w_
          have h_p_table := ((rP (rsC zI (rsC zI (rs1 (rT (rT (rP (rsC zI (rs1 zI)))))))))).mono e4 h_p_table
          have h_p_moves := ((rK (rO zI))).mono e4 h_p_moves
          refine (show (_ : TS) _ ([some v_p_table, some (.int p_driver_count), some v_p_moves, d_3, d_4, d_5, d_6] : L2.St) _ from ?_)
          try dsimp only at hm
          exact hm.out .non _ _ hs.fin rfl

theorem ok_driven_table {P : Program} {w : World} {K : PySem.W.Frag} {mg : Str → Option Value} {base : Heap} {cl : Nat → Addr} {fa : Addr} {fd : FuncData} (F : Fun K "driven_table" "driven_table" s_driven_table fa fd) (T : Txt K mg cl) (C_check_driver : Cal P w K mg base "check_driver" 1 ["table", "driver_count"] (spP K cl (rsC (rP (rsC zI (rsC zI (rs1 (rT (rT (rP (rsC zI (rs1 zI))))))))) (rs1 zI)) rN (fun a => m_check_driver (a.1) (a.2)))) (C_check_moves : Cal P w K mg base "check_moves" 2 ["table", "driver_count", "moves"] (spP K cl (rsC (rP (rsC zI (rsC zI (rs1 (rT (rT (rP (rsC zI (rs1 zI))))))))) (rsC zI (rs1 (rK (rO zI))))) rN (fun a => m_check_moves (a.1) (a.2.1) (a.2.2)))) (C_outcomes : Cal P w K mg base "outcomes" 1 ["table", "driver_count", "state", "move"] (spP K cl (rsC (rP (rsC zI (rsC zI (rs1 (rT (rT (rP (rsC zI (rs1 zI))))))))) (rsC zI (rsC zI (rs1 zI)))) (rK (rP (rsC zI (rs1 zI)))) (fun a => m_outcomes (a.1) (a.2.1) (a.2.2.1) (a.2.2.2)))) :
    FnOk P w K mg base (L2.CX P w) 3 fa fd ["table", "driver_count", "moves"] (spP K cl (rsC (rP (rsC zI (rsC zI (rs1 (rT (rT (rP (rsC zI (rs1 zI))))))))) (rsC zI (rs1 (rK (rO zI))))) (rP (rsC zI (rsC zI (rs1 (rT (rT (rP (rsC zI (rs1 zI))))))))) (fun a => m_driven_table (a.1) (a.2.1) (a.2.2))) := by
  refine F.okX sc_driven_table (fun vs H Q E h => ?_) (fun cdv A outer s H vs Q E hr h => ?_)
  · obtain ⟨G, a, _, hS, _⟩ := h
    exact (lnC (lnC ln1)) _ _ _ _ hS
  · obtain ⟨G, ⟨p_table, p_driver_count, p_moves⟩, hg, hS, hm⟩ := h
    obtain ⟨v_p_table, _, rfl, h_p_table, v_p_driver_count, _, rfl, h_p_driver_count, v_p_moves, rfl, h_p_moves⟩ := hS
    cases (show v_p_driver_count = V.int p_driver_count from h_p_driver_count)
    have tk : Takes (cxOf (L2.CX P w) P w K mg base N_driven_table "driven_table" (defScope s_driven_table) fa cdv A outer s H E) (fun cls d _ H => E cls d H) := takes_of rfl rfl rfl rfl
    refine ⟨_, (pss_cons (ps_expr (pe_call (E := E) C_check_driver.ok (hr.mono (by decide)) rfl C_check_driver.mgx C_check_driver.kp C_check_driver.bd .nil (passes_call tk (fun _ _ _ _ h => h)) (pa_cons (pv 0) (pa_cons (pv 1) pa_nil))))
     (pss_cons (ps_expr (pe_call (E := E) C_check_moves.ok (hr.mono (by decide)) rfl C_check_moves.mgx C_check_moves.kp C_check_moves.bd .nil (passes_call tk (fun _ _ _ _ h => h)) (pa_cons (pv 0) (pa_cons (pv 1) (pa_cons (pv 2) pa_nil)))))
     (pss_cons (ps_set (i := 3) sc_driven_table.nd rfl (by first | exact Or.inl rfl | exact Or.inr rfl) pe_dnewK)
     (pss_cons (ps_for (passes_of rfl) rfl (pi_enum (by rfl) T.n_enumerate (pa_cons (pv 2) pa_nil)) (show PG _ _ (gTup K 2 _) from pg_tup rfl (pgs_cons (pg_name (i := 4) sc_driven_table.nd rfl (by first | exact Or.inl rfl | exact Or.inr rfl)) (pgs_cons (pg_name (i := 5) sc_driven_table.nd rfl (by first | exact Or.inl rfl | exact Or.inr rfl)) pgs_nil))) (pss_cons (ps_if (pt_cmpR op_notN (pv 5) pe_non (nomark _)) (pss_cons (ps_dput (hu_of hr) (pv 3) (pv 4) (pe_callB call_lenD (by rfl) T.n_len b_len (pa_cons (pv 3) pa_nil)) rfl)
     pss_nil) pss_nil)
     pss_nil))
     (pss_cons (ps_set (i := 6) sc_driven_table.nd rfl (by first | exact Or.inl rfl | exact Or.inr rfl) (pe_lst pa_nil))
     (pss_cons (ps_lock (ps_for (passes_of rfl) rfl (pi_keys (pv 3)) (pg_name (i := 4) sc_driven_table.nd rfl (by first | exact Or.inl rfl | exact Or.inr rfl)) (pss_cons (ps_set (i := 7) sc_driven_table.nd rfl (by first | exact Or.inl rfl | exact Or.inr rfl) (pe_call (E := E) C_outcomes.ok (hr.mono (by decide)) rfl C_outcomes.mgx C_outcomes.kp C_outcomes.bd .nil (passes_call tk (fun _ _ _ _ h => h)) (pa_cons (pv 0) (pa_cons (pv 1) (pa_cons (pv 4) (pa_cons (pe_ix (r := rIxL K) ix_list (pv 2) (pv 4) (fun _ _ => rfl)) pa_nil))))))
     (pss_cons (ps_expr (pe_bm PySem.F.plainAttrs_list PySem.F.slot_list_append PySem.F.type_list_append mt_append (pv 6) (pa_cons (pe_callTy (r := rTu K) call_tuple_of (by rfl) T.n_tuple b_tuple (pa_cons (pe_lc (own := [("target", 8), ("answer", 9)]) rfl sc_driven_table.nd (pi_list (pv 7)) (blkOk_by (own := [("target", 8), ("answer", 9)]) (N := N_driven_table) (sc := defScope s_driven_table) (by decide +kernel)) (fun _ _ _ _ _ => (show PG _ _ (gTup K 2 _) from pg_tup rfl (pgs_cons (pg_name (i := 8) sc_driven_table.nd rfl (by first | exact Or.inl rfl | exact Or.inr rfl)) (pgs_cons (pg_name (i := 9) sc_driven_table.nd rfl (by first | exact Or.inl rfl | exact Or.inr rfl)) pgs_nil)))) (fun _ _ _ _ _ => pts_nil) (fun _ _ _ _ _ => (pe_tup (pa_cons (pe_dget (hu_of hr) (pv 3) (pv 8) (fun _ _ => rfl)) (pa_cons (pv 9) pa_nil))))) pa_nil)) pa_nil)))
     pss_nil))))
     (pss_cons (ps_ret (pe_tup (pa_cons (pe_op op_sub (pe_ix (r := rIxT K) ix_tup (pv 0) pe_int (fun _ _ => rfl)) (pv 1)) (pa_cons (pe_ix (r := rIxT K) ix_tup (pv 0) pe_int (fun _ _ => rfl)) (pa_cons (pe_callTy (r := rTu K) call_tuple_of (by rfl) T.n_tuple b_tuple (pa_cons (pv 6) pa_nil)) pa_nil)))))
     pss_nil))))))), ?_⟩
    have hs : Hs ⟨H, G, E, cl⟩ G [] H := Hs.start hg
    have hm := Wp.ofSp (G0 := G) hm
    dsimp only at hm
    unfold m_driven_table at hm
    refine (show (_ : TS) _ ([some v_p_table, some (.int p_driver_count), some v_p_moves, none, none, none, none, none, none, none] : L2.St) _ from ?_)
    refine w_drop (K := K) (e_call (fm := ⟨H, G, E, cl⟩) (a_cons (e_var (K := K) (i := 0) (R := (rP (rsC zI (rsC zI (rs1 (rT (rT (rP (rsC zI (rs1 zI)))))))))) (x := p_table) rfl h_p_table) (a_one (e_var (K := K) (i := 1) (R := zI) (x := p_driver_count) rfl rfl)))) hs hm (fun x1 G1 H1 e1 hs hm => ?_)
    have h_p_table := ((rP (rsC zI (rsC zI (rs1 (rT (rT (rP (rsC zI (rs1 zI)))))))))).mono e1 h_p_table
    have h_p_moves := ((rK (rO zI))).mono e1 h_p_moves
    refine w_drop (K := K) (e_call (fm := ⟨H, G, E, cl⟩) (a_cons (e_var (K := K) (i := 0) (R := (rP (rsC zI (rsC zI (rs1 (rT (rT (rP (rsC zI (rs1 zI)))))))))) (x := p_table) rfl h_p_table) (a_cons (e_var (K := K) (i := 1) (R := zI) (x := p_driver_count) rfl rfl) (a_one (e_var (K := K) (i := 2) (R := (rK (rO zI))) (x := p_moves) rfl h_p_moves))))) hs hm (fun x2 G2 H2 e2 hs hm => ?_)
    have h_p_table := ((rP (rsC zI (rsC zI (rs1 (rT (rT (rP (rsC zI (rs1 zI)))))))))).mono e2 h_p_table
    have h_p_moves := ((rK (rO zI))).mono e2 h_p_moves
    refine w_asgD (K := K) (k := keI) (R := zI) (i := 3) d_new hs hm (fun p_places l_p_places vs_p_places G3 H3 e3 hs h3 hm => ?_)
    have h_p_table := ((rP (rsC zI (rsC zI (rs1 (rT (rT (rP (rsC zI (rs1 zI)))))))))).mono e3 h_p_table
    have h_p_moves := ((rK (rO zI))).mono e3 h_p_moves
    have h_p_places := h3
    refine (show (_ : TS) _ ([some v_p_table, some (.int p_driver_count), some v_p_moves, some (.ref l_p_places), none, none, none, none, none, none] : L2.St) _ from ?_)
    refine w_forM (K := K) (fun (p_places : (List (Int × Int))) (σ : L2.St) (G : Hp) (O : Own) => ∃ (l_p_places : Addr) (vs_p_places : List (Key × V)) (d_4 : Option V) (d_5 : Option V), σ = [some v_p_table, some (.int p_driver_count), some v_p_moves, some (.ref l_p_places), d_4, d_5, none, none, none, none] ∧ O = [(l_p_places, .dK vs_p_places)] ∧ RKs keI zI K G vs_p_places p_places) (i_enum (e_KL (e_var (K := K) (i := 2) (R := (rK (rO zI))) (x := p_moves) rfl h_p_moves))) (fun _ _ _ _ _ _ h => nomatch h) (tg_tup2) hs hm ⟨l_p_places, vs_p_places, none, none, rfl, rfl, h_p_places⟩ (fun x4 p_places σ_ G1_4 G4 O_ H4 vv4 D4 Qb4 e4 w_ e14 hs hv4 E4 hm => ?_) (fun p_places σ_ G1_4 G4 O_ H4 e4 w_ e14 hs hm => ?_)
    · obtain ⟨l_p_places, vs_p_places, d_4, d_5, rfl, rfl, h_p_places⟩ := w_
      have h_p_table := ((rP (rsC zI (rsC zI (rs1 (rT (rT (rP (rsC zI (rs1 zI)))))))))).mono e4 h_p_table
      have h_p_moves := ((rK (rO zI))).mono e4 h_p_moves
      have h_p_places := RKs.mono e14 h_p_places
      obtain ⟨p_state, p_move⟩ := x4
      obtain ⟨v_p_state, _, rfl, h_p_state, v_p_move, rfl, h_p_move⟩ := hv4
      cases (show v_p_state = V.int p_state from h_p_state)
      have b4 := Same.refl G4
      refine (show (_ : TS) _ ([some v_p_table, some (.int p_driver_count), some v_p_moves, some (.ref l_p_places), some (.int p_state), some v_p_move, none, none, none, none] : L2.St) _ from ?_)
      unfold m_driven_table_b14 at hm
      try dsimp only at hm
      refine w_if (t_test (K := K) (e_notN (e_var (K := K) (i := 5) (R := (rO zI)) (x := p_move) rfl h_p_move))) hs hm (fun G5 H5 e5 hs hm => ?_) (fun G5 H5 e5 hs hm => ?_)
      · have h_p_table := ((rP (rsC zI (rsC zI (rs1 (rT (rT (rP (rsC zI (rs1 zI)))))))))).mono e5 h_p_table
        have h_p_moves := ((rK (rO zI))).mono e5 h_p_moves
        have h_p_places := RKs.mono e5 h_p_places
        have h_p_move := ((rO zI)).mono e5 h_p_move
        have b4 := Same.trans b4 e5
        refine w_dput (K := K) (k := keI) (R := zI) (i := 3) 0 (xs := p_places) rfl rfl h_p_places (e_lenD (i := 3) (l := l_p_places) rfl (List.mem_of_getElem? (i := 0) rfl) h_p_places) (e_var (K := K) (i := 4) (R := zI) (x := p_state) rfl rfl) hs hm (fun p_places vs_p_places G6 H6 e6 hs h6 hm => ?_)
        have h_p_table := ((rP (rsC zI (rsC zI (rs1 (rT (rT (rP (rsC zI (rs1 zI)))))))))).mono e6 h_p_table
        have h_p_moves := ((rK (rO zI))).mono e6 h_p_moves
        have h_p_move := ((rO zI)).mono e6 h_p_move
        have b4 := Same.trans b4 e6
        have h_p_places := h6
        refine nx_of ?_
        refine (show (_ : TS) _ ([some v_p_table, some (.int p_driver_count), some v_p_moves, some (.ref l_p_places), some (.int p_state), some v_p_move, none, none, none, none] : L2.St) _ from ?_)
        exact E4.nx p_places _ _ _ _ _ b4 ⟨l_p_places, vs_p_places, some (.int p_state), some v_p_move, rfl, rfl, h_p_places⟩ (Same.refl _) hs hm.out
      · have h_p_table := ((rP (rsC zI (rsC zI (rs1 (rT (rT (rP (rsC zI (rs1 zI)))))))))).mono e5 h_p_table
        have h_p_moves := ((rK (rO zI))).mono e5 h_p_moves
        have h_p_places := RKs.mono e5 h_p_places
        have h_p_move := ((rO zI)).mono e5 h_p_move
        have b4 := Same.trans b4 e5
        refine nx_of ?_
        refine (show (_ : TS) _ ([some v_p_table, some (.int p_driver_count), some v_p_moves, some (.ref l_p_places), some (.int p_state), some v_p_move, none, none, none, none] : L2.St) _ from ?_)
        exact E4.nx p_places _ _ _ _ _ b4 ⟨l_p_places, vs_p_places, some (.int p_state), some v_p_move, rfl, rfl, h_p_places⟩ (Same.refl _) hs hm.out
    · obtain ⟨l_p_places, vs_p_places, d_4, d_5, rfl, rfl, h_p_places⟩ := w_
      have h_p_table := ((rP (rsC zI (rsC zI (rs1 (rT (rT (rP (rsC zI (rs1 zI)))))))))).mono e4 h_p_table
      have h_p_moves := ((rK (rO zI))).mono e4 h_p_moves
      have h_p_places := RKs.mono e14 h_p_places
      refine (show (_ : TS) _ ([some v_p_table, some (.int p_driver_count), some v_p_moves, some (.ref l_p_places), d_4, d_5, none, none, none, none] : L2.St) _ from ?_)
      try dsimp only at hm
      refine w_asgN (K := K) (R := (rT (rP (rsC zI (rs1 zI))))) (i := 6) (e_lst l_nil (by decide)) hs hm (fun p_rows l_p_rows vs_p_rows G7 H7 e7 hs h7 hm => ?_)
      have h_p_table := ((rP (rsC zI (rsC zI (rs1 (rT (rT (rP (rsC zI (rs1 zI)))))))))).mono e7 h_p_table
      have h_p_moves := ((rK (rO zI))).mono e7 h_p_moves
      have h_p_places := RKs.mono e7 h_p_places
      have h_p_rows := h7
      refine (show (_ : TS) _ ([some v_p_table, some (.int p_driver_count), some v_p_moves, some (.ref l_p_places), d_4, d_5, some (.ref l_p_rows), none, none, none] : L2.St) _ from ?_)
      refine w_lockM (K := K) (k := keI) (R := zI) (i := 3) 1 (fun od8 => fun (p_rows : (List (List (Int × Int)))) (σ : L2.St) (G : Hp) (O : Own) => ∃ (l_p_rows : Addr) (vs_p_rows : List V) (d_4 : Option V) (d_7 : Option V), σ = [some v_p_table, some (.int p_driver_count), some v_p_moves, some (.ref l_p_places), d_4, d_5, some (.ref l_p_rows), d_7, none, none] ∧ O = [(l_p_rows, .lst vs_p_rows), (l_p_places, .frz od8 (.dK vs_p_places))] ∧ RLs (rT (rP (rsC zI (rs1 zI)))) K G vs_p_rows p_rows) rfl rfl h_p_places (tg_name (i := 4) (R := zI)) hs hm (fun od s_ σ_ G_ O_ w_ => by obtain ⟨l_p_rows, vs_p_rows, d_4, d_7, rfl, rfl, h_p_rows⟩ := w_; rfl) (fun od8 => ⟨l_p_rows, vs_p_rows, d_4, none, rfl, rfl, h_p_rows⟩) (fun od8 p_state p_rows σ_ G1_8 G8 O_ H8 vv8 D8 Qb8 e8 w_ e18 hs hv8 E8 hm => ?_) (fun od8 p_rows σ_ G1_8 G8 O_ H8 e8 w_ e18 hs hm => ?_)
      · obtain ⟨l_p_rows, vs_p_rows, d_4, d_7, rfl, rfl, h_p_rows⟩ := w_
        have h_p_table := ((rP (rsC zI (rsC zI (rs1 (rT (rT (rP (rsC zI (rs1 zI)))))))))).mono e8 h_p_table
        have h_p_moves := ((rK (rO zI))).mono e8 h_p_moves
        have h_p_places := RKs.mono e8 h_p_places
        have h_p_rows := RLs.mono e18 h_p_rows
        obtain ⟨v_p_state, rfl, h_p_state⟩ := hv8
        cases (show v_p_state = V.int p_state from h_p_state)
        have b8 := Same.refl G8
        refine (show (_ : TS) _ ([some v_p_table, some (.int p_driver_count), some v_p_moves, some (.ref l_p_places), some (.int p_state), d_5, some (.ref l_p_rows), d_7, none, none] : L2.St) _ from ?_)
        unfold m_driven_table_b13 at hm
        try dsimp only at hm
        refine w_asg (K := K) (tg_name (i := 7) (R := (rK (rP (rsC zI (rs1 zI)))))) (e_call (fm := ⟨H, G, E, cl⟩) (a_cons (e_var (K := K) (i := 0) (R := (rP (rsC zI (rsC zI (rs1 (rT (rT (rP (rsC zI (rs1 zI)))))))))) (x := p_table) rfl h_p_table) (a_cons (e_var (K := K) (i := 1) (R := zI) (x := p_driver_count) rfl rfl) (a_cons (e_var (K := K) (i := 4) (R := zI) (x := p_state) rfl rfl) (a_one (e_get (e_ixL (e_KL (e_var (K := K) (i := 2) (R := (rK (rO zI))) (x := p_moves) rfl h_p_moves)) (e_var (K := K) (i := 4) (R := zI) (x := p_state) rfl rfl)))))))) hs hm (fun p_pairs vv9 G9 H9 e9 hs hv9 hm => ?_)
        obtain ⟨v_p_pairs, rfl, h_p_pairs⟩ := hv9
        have h_p_table := ((rP (rsC zI (rsC zI (rs1 (rT (rT (rP (rsC zI (rs1 zI)))))))))).mono e9 h_p_table
        have h_p_moves := ((rK (rO zI))).mono e9 h_p_moves
        have h_p_places := RKs.mono e9 h_p_places
        have h_p_rows := RLs.mono e9 h_p_rows
        have b8 := Same.trans b8 e9
        refine (show (_ : TS) _ ([some v_p_table, some (.int p_driver_count), some v_p_moves, some (.ref l_p_places), some (.int p_state), d_5, some (.ref l_p_rows), some v_p_pairs, none, none] : L2.St) _ from ?_)
        refine w_app (K := K) (i := 6) 0 (xs := p_rows) rfl rfl h_p_rows (e_tupleL (e_KL (EvN.evK (n_lc (S := (rP (rsC zI (rs1 zI)))) (i_list (e_KL (e_var (K := K) (i := 7) (R := (rK (rP (rsC zI (rs1 zI))))) (x := p_pairs) rfl h_p_pairs))) (fun _ h => nomatch h) (tg_tup2) (by decide) (fun x10 vs10 G10 e10 hv10 => by
         obtain ⟨v10_p_target, _, rfl, h10_p_target, v10_p_answer, rfl, h10_p_answer⟩ := hv10
         exact ⟨t_yes, (e_tup (lnC ln1) (a_cons (e_dget (K := K) (k := keI) (i := 3) (l := l_p_places) rfl (List.mem_of_getElem? (i := 1) rfl) (.inr ⟨_, rfl⟩) (RKs.mono e10 h_p_places) (e_var (K := K) (i := 8) (R := zI) (x := x10.1) rfl h10_p_target)) (a_one (e_var (K := K) (i := 9) (R := zI) (x := x10.2) rfl h10_p_answer))) (by decide))⟩))))) hs hm (fun y11 w11 G11 H11 e11 hs h11 hm => ?_)
        have h_p_table := ((rP (rsC zI (rsC zI (rs1 (rT (rT (rP (rsC zI (rs1 zI)))))))))).mono e11 h_p_table
        have h_p_moves := ((rK (rO zI))).mono e11 h_p_moves
        have h_p_places := RKs.mono e11 h_p_places
        have h_p_pairs := ((rK (rP (rsC zI (rs1 zI))))).mono e11 h_p_pairs
        have b8 := Same.trans b8 e11
        have h_p_rows := h11
        generalize p_rows ++ [y11] = p_rows at hm h_p_rows
        generalize vs_p_rows ++ [w11] = vs_p_rows at hs h_p_rows
        exact E8.nx p_rows _ _ _ _ _ b8 ⟨l_p_rows, vs_p_rows, some (.int p_state), some v_p_pairs, rfl, rfl, h_p_rows⟩ (Same.refl _) hs hm.out
      · obtain ⟨l_p_rows, vs_p_rows, d_4, d_7, rfl, rfl, h_p_rows⟩ := w_
        have h_p_table := ((rP (rsC zI (rsC zI (rs1 (rT (rT (rP (rsC zI (rs1 zI)))))))))).mono e8 h_p_table
        have h_p_moves := ((rK (rO zI))).mono e8 h_p_moves
        have h_p_places := RKs.mono e8 h_p_places
        have h_p_rows := RLs.mono e18 h_p_rows
        refine (show (_ : TS) _ ([some v_p_table, some (.int p_driver_count), some v_p_moves, some (.ref l_p_places), d_4, d_5, some (.ref l_p_rows), d_7, none, none] : L2.St) _ from ?_)
        try dsimp only at hm
        have ng12 := (hs.at 0 rfl).2.1
        have eg12 := same_new (o := HO.lst vs_p_rows) ng12
        have hs := hs.give 0 rfl
        have h_p_rows : (rK (rT (rP (rsC zI (rs1 zI))))).r K _ (.ref l_p_rows) p_rows := ⟨l_p_rows, vs_p_rows, rfl, upd_same, RLs.mono eg12 h_p_rows⟩
        have h_p_table := ((rP (rsC zI (rsC zI (rs1 (rT (rT (rP (rsC zI (rs1 zI)))))))))).mono eg12 h_p_table
        have h_p_moves := ((rK (rO zI))).mono eg12 h_p_moves
        have h_p_places := RKs.mono eg12 h_p_places
        exact w_ret0 (K := K) (e_tup (lnC (lnC ln1)) (a_cons (e_sub (e_proj (k := 0) pj0 (e_var (K := K) (i := 0) (R := (rP (rsC zI (rsC zI (rs1 (rT (rT (rP (rsC zI (rs1 zI)))))))))) (x := p_table) rfl h_p_table)) (e_var (K := K) (i := 1) (R := zI) (x := p_driver_count) rfl rfl)) (a_cons (e_proj (k := 1) (pjS pj0) (e_var (K := K) (i := 0) (R := (rP (rsC zI (rsC zI (rs1 (rT (rT (rP (rsC zI (rs1 zI)))))))))) (x := p_table) rfl h_p_table)) (a_one (e_tupleL (e_KL (e_var (K := K) (i := 6) (R := (rK (rT (rP (rsC zI (rs1 zI)))))) (x := p_rows) rfl h_p_rows)))))) (by decide)) hs hm fun r v G2 H2 hs2 hr2 hq => hq v G2 H2 hs2.fin hr2

theorem ok_law_far {P : Program} {w : World} {K : PySem.W.Frag} {mg : Str → Option Value} {base : Heap} {cl : Nat → Addr} {fa : Addr} {fd : FuncData} (F : Fun K "_law_far" "_law_far" s_law_far fa fd) (T : Txt K mg cl)  :
    FnOk P w K mg base (L2.CX P w) 1 fa fd ["script", "k"] (spP K cl (rsC (rL zI) (rs1 zI)) zI (fun a => m_law_far (a.1) (a.2))) := by
  refine F.okX sc_law_far (fun vs H Q E h => ?_) (fun cdv A outer s H vs Q E hr h => ?_)
  · obtain ⟨G, a, _, hS, _⟩ := h
    exact (lnC ln1) _ _ _ _ hS
  · obtain ⟨G, ⟨p_script, p_k⟩, hg, hS, hm⟩ := h
    obtain ⟨v_p_script, _, rfl, h_p_script, v_p_k, rfl, h_p_k⟩ := hS
    cases (show v_p_k = V.int p_k from h_p_k)
    refine ⟨_, (pss_cons (ps_if (pt_cmpR op_eq (pe_callB (r := rLen K) call_len (by rfl) T.n_len b_len (pa_cons (pv 0) pa_nil)) pe_int (nomark _)) (pss_cons (ps_ret (pe_op op_add (pe_op op_mul pe_int (pv 1)) pe_int))
     pss_nil) pss_nil)
     (pss_cons (ps_if (pt_cmpR op_lt (pv 1) (pe_callB (r := rLen K) call_len (by rfl) T.n_len b_len (pa_cons (pv 0) pa_nil)) (nomark _)) (pss_cons (ps_ret (pe_ix (r := rIxL K) ix_list (pv 0) (pv 1) (fun _ _ => rfl)))
     pss_nil) pss_nil)
     (pss_cons (ps_ret (pe_op op_add (pe_ix (r := rIxL K) ix_list (pv 0) (pe_op op_mod (pe_callTy call_int1 (by rfl) T.n_int b_int (pa_cons (pv 1) pa_nil)) (pe_callB (r := rLen K) call_len (by rfl) T.n_len b_len (pa_cons (pv 0) pa_nil))) (fun _ _ => rfl)) (pe_op op_mul pe_int (pv 1))))
     pss_nil))), ?_⟩
    have hs : Hs ⟨H, G, E, cl⟩ G [] H := Hs.start hg
    have hm := Wp.ofSp (G0 := G) hm
    dsimp only at hm
    unfold m_law_far at hm
    refine (show (_ : TS) _ ([some v_p_script, some (.int p_k)] : L2.St) _ from ?_)
    refine w_if (t_test (K := K) (e_eq srI (e_len sq_L (e_var (K := K) (i := 0) (R := (rL zI)) (x := p_script) rfl h_p_script)) e_int)) hs hm (fun G1 H1 e1 hs hm => ?_) (fun G1 H1 e1 hs hm => ?_)
    · have h_p_script := ((rL zI)).mono e1 h_p_script
      exact w_ret0 (K := K) (e_add (e_mul e_int (e_var (K := K) (i := 1) (R := zI) (x := p_k) rfl rfl)) e_int) hs hm fun r v G2 H2 hs2 hr2 hq => hq v G2 H2 hs2.fin hr2
    · have h_p_script := ((rL zI)).mono e1 h_p_script
      refine nx_of ?_
      refine (show (_ : TS) _ ([some v_p_script, some (.int p_k)] : L2.St) _ from ?_)
      refine w_if (t_test (K := K) (e_cmp (p := fun i j => decide (i < j)) (e_var (K := K) (i := 1) (R := zI) (x := p_k) rfl rfl) (e_len sq_L (e_var (K := K) (i := 0) (R := (rL zI)) (x := p_script) rfl h_p_script)))) hs hm (fun G2 H2 e2 hs hm => ?_) (fun G2 H2 e2 hs hm => ?_)
      · have h_p_script := ((rL zI)).mono e2 h_p_script
        exact w_ret0 (K := K) (e_ixL (e_var (K := K) (i := 0) (R := (rL zI)) (x := p_script) rfl h_p_script) (e_var (K := K) (i := 1) (R := zI) (x := p_k) rfl rfl)) hs hm fun r v G2 H2 hs2 hr2 hq => hq v G2 H2 hs2.fin hr2
      · have h_p_script := ((rL zI)).mono e2 h_p_script
        refine nx_of ?_
        refine (show (_ : TS) _ ([some v_p_script, some (.int p_k)] : L2.St) _ from ?_)
        exact w_ret0 (K := K) (e_add (e_ixL (e_var (K := K) (i := 0) (R := (rL zI)) (x := p_script) rfl h_p_script) (e_mod (e_intI (e_var (K := K) (i := 1) (R := zI) (x := p_k) rfl rfl)) (e_len sq_L (e_var (K := K) (i := 0) (R := (rL zI)) (x := p_script) rfl h_p_script)))) (e_mul e_int (e_var (K := K) (i := 1) (R := zI) (x := p_k) rfl rfl))) hs hm fun r v G2 H2 hs2 hr2 hq => hq v G2 H2 hs2.fin hr2

theorem ok_law_parts {P : Program} {w : World} {K : PySem.W.Frag} {mg : Str → Option Value} {base : Heap} {cl : Nat → Addr} {fa : Addr} {fd : FuncData} (F : Fun K "_law_parts" "_law_parts" s_law_parts fa fd) (T : Txt K mg cl)  :
    FnOk P w K mg base (L2.CX P w) 1 fa fd ["cell", "sizes"] (spP K cl (rsC zI (rs1 (rK zI))) (rK zI) (fun a => m_law_parts (a.1) (a.2))) := by
  refine F.okX sc_law_parts (fun vs H Q E h => ?_) (fun cdv A outer s H vs Q E hr h => ?_)
  · obtain ⟨G, a, _, hS, _⟩ := h
    exact (lnC ln1) _ _ _ _ hS
  · obtain ⟨G, ⟨p_cell, p_sizes⟩, hg, hS, hm⟩ := h
    obtain ⟨v_p_cell, _, rfl, h_p_cell, v_p_sizes, rfl, h_p_sizes⟩ := hS
    cases (show v_p_cell = V.int p_cell from h_p_cell)
    refine ⟨_, (pss_cons (ps_set (i := 2) sc_law_parts.nd rfl (by first | exact Or.inl rfl | exact Or.inr rfl) (pe_lst pa_nil))
     (pss_cons (ps_set (i := 3) sc_law_parts.nd rfl (by first | exact Or.inl rfl | exact Or.inr rfl) (pe_op op_sub (pv 0) (pe_op op_pow pe_int pe_int)))
     (pss_cons (ps_for (passes_of rfl) rfl (pi_range1 rfl T.n_range (pa_cons (pe_callB (r := rLen K) call_len (by rfl) T.n_len b_len (pa_cons (pv 1) pa_nil)) pa_nil)) (pg_name (i := 4) sc_law_parts.nd rfl (by first | exact Or.inl rfl | exact Or.inr rfl)) (pss_cons (ps_if (pt_cmpR op_ge (pv 3) pe_int (nomark _)) (pss_cons (ps_expr (pe_bm PySem.F.plainAttrs_list PySem.F.slot_list_append PySem.F.type_list_append mt_append (pv 2) (pa_cons (pe_op op_mod (pe_callTy call_int1 (by rfl) T.n_int b_int (pa_cons (pv 3) pa_nil)) (pe_ix (r := rIxL K) ix_list (pv 1) (pv 4) (fun _ _ => rfl))) pa_nil)))
     (pss_cons (ps_set (i := 3) sc_law_parts.nd rfl (by first | exact Or.inl rfl | exact Or.inr rfl) (pe_op op_fdiv (pv 3) (pe_ix (r := rIxL K) ix_list (pv 1) (pv 4) (fun _ _ => rfl))))
     pss_nil)) (pss_cons (ps_set (i := 5) sc_law_parts.nd rfl (by first | exact Or.inl rfl | exact Or.inr rfl) (pe_op op_mod (pe_callTy call_int1 (by rfl) T.n_int b_int (pa_cons (pe_op op_add (pe_op op_add (pe_op op_mul (pv 0) pe_int) (pe_op op_mul (pv 4) pe_int)) pe_int) pa_nil)) pe_int))
     (pss_cons (ps_set (i := 5) sc_law_parts.nd rfl (by first | exact Or.inl rfl | exact Or.inr rfl) (pe_op op_mod (pe_callTy call_int1 (by rfl) T.n_int b_int (pa_cons (pe_op op_add (pe_op op_add (pe_op op_mul (pv 5) (pv 5)) (pe_op op_mul pe_int (pv 4))) pe_int) pa_nil)) pe_int))
     (pss_cons (ps_expr (pe_bm PySem.F.plainAttrs_list PySem.F.slot_list_append PySem.F.type_list_append mt_append (pv 2) (pa_cons (pe_op op_mod (pe_callTy call_int1 (by rfl) T.n_int b_int (pa_cons (pv 5) pa_nil)) (pe_ix (r := rIxL K) ix_list (pv 1) (pv 4) (fun _ _ => rfl))) pa_nil)))
     pss_nil))))
     pss_nil))
     (pss_cons (ps_ret (pv 2))
     pss_nil)))), ?_⟩
    have hs : Hs ⟨H, G, E, cl⟩ G [] H := Hs.start hg
    have hm := Wp.ofSp (G0 := G) hm
    dsimp only at hm
    unfold m_law_parts at hm
    refine (show (_ : TS) _ ([some (.int p_cell), some v_p_sizes, none, none, none, none] : L2.St) _ from ?_)
    refine w_asgN (K := K) (R := zI) (i := 2) (e_lst l_nil (by decide)) hs hm (fun p_parts l_p_parts vs_p_parts G1 H1 e1 hs h1 hm => ?_)
    have h_p_sizes := ((rK zI)).mono e1 h_p_sizes
    have h_p_parts := h1
    refine (show (_ : TS) _ ([some (.int p_cell), some v_p_sizes, some (.ref l_p_parts), none, none, none] : L2.St) _ from ?_)
    refine w_asg (K := K) (tg_name (i := 3) (R := zI)) (e_sub (e_var (K := K) (i := 0) (R := zI) (x := p_cell) rfl rfl) (e_pow e_int e_int)) hs hm (fun p_rest vv2 G2 H2 e2 hs hv2 hm => ?_)
    obtain ⟨v_p_rest, rfl, h_p_rest⟩ := hv2
    cases (show v_p_rest = V.int p_rest from h_p_rest)
    have h_p_sizes := ((rK zI)).mono e2 h_p_sizes
    have h_p_parts := RLs.mono e2 h_p_parts
    refine (show (_ : TS) _ ([some (.int p_cell), some v_p_sizes, some (.ref l_p_parts), some (.int p_rest), none, none] : L2.St) _ from ?_)
    refine w_forM (K := K) (fun (s : (List Int) × Int) (σ : L2.St) (G : Hp) (O : Own) => match s with | (p_parts, p_rest) => ∃ (l_p_parts : Addr) (vs_p_parts : List V) (d_4 : Option V) (d_5 : Option V), σ = [some (.int p_cell), some v_p_sizes, some (.ref l_p_parts), some (.int p_rest), d_4, d_5] ∧ O = [(l_p_parts, .lst vs_p_parts)] ∧ RLs zI K G vs_p_parts p_parts) (i_rng1 (e_len sq_K (e_var (K := K) (i := 1) (R := (rK zI)) (x := p_sizes) rfl h_p_sizes))) (fun _ _ _ _ _ _ h => nomatch h) (tg_name (i := 4) (R := zI)) hs hm ⟨l_p_parts, vs_p_parts, none, none, rfl, rfl, h_p_parts⟩ (fun p_k s_ σ_ G1_3 G3 O_ H3 vv3 D3 Qb3 e3 w_ e13 hs hv3 E3 hm => ?_) (fun s_ σ_ G1_3 G3 O_ H3 e3 w_ e13 hs hm => ?_)
    · obtain ⟨p_parts, p_rest⟩ := s_
      obtain ⟨l_p_parts, vs_p_parts, d_4, d_5, rfl, rfl, h_p_parts⟩ := w_
      have h_p_sizes := ((rK zI)).mono e3 h_p_sizes
      have h_p_parts := RLs.mono e13 h_p_parts
      obtain ⟨v_p_k, rfl, h_p_k⟩ := hv3
      cases (show v_p_k = V.int p_k from h_p_k)
      have b3 := Same.refl G3
      refine (show (_ : TS) _ ([some (.int p_cell), some v_p_sizes, some (.ref l_p_parts), some (.int p_rest), some (.int p_k), d_5] : L2.St) _ from ?_)
      unfold m_law_parts_b11 at hm
      try dsimp only at hm
      refine w_if (t_test (K := K) (e_cmp (p := fun i j => decide (j ≤ i)) (e_var (K := K) (i := 3) (R := zI) (x := p_rest) rfl rfl) e_int)) hs hm (fun G4 H4 e4 hs hm => ?_) (fun G4 H4 e4 hs hm => ?_)
      · have h_p_sizes := ((rK zI)).mono e4 h_p_sizes
        have h_p_parts := RLs.mono e4 h_p_parts
        have b3 := Same.trans b3 e4
        refine w_app (K := K) (i := 2) 0 (xs := p_parts) rfl rfl h_p_parts (e_mod (e_intI (e_var (K := K) (i := 3) (R := zI) (x := p_rest) rfl rfl)) (e_ixL (e_KL (e_var (K := K) (i := 1) (R := (rK zI)) (x := p_sizes) rfl h_p_sizes)) (e_var (K := K) (i := 4) (R := zI) (x := p_k) rfl rfl))) hs hm (fun y5 w5 G5 H5 e5 hs h5 hm => ?_)
        have h_p_sizes := ((rK zI)).mono e5 h_p_sizes
        have b3 := Same.trans b3 e5
        have h_p_parts := h5
        generalize p_parts ++ [y5] = p_parts at hm h_p_parts
        generalize vs_p_parts ++ [w5] = vs_p_parts at hs h_p_parts
        refine w_asg (K := K) (tg_name (i := 3) (R := zI)) (e_fdiv (e_var (K := K) (i := 3) (R := zI) (x := p_rest) rfl rfl) (e_ixL (e_KL (e_var (K := K) (i := 1) (R := (rK zI)) (x := p_sizes) rfl h_p_sizes)) (e_var (K := K) (i := 4) (R := zI) (x := p_k) rfl rfl))) hs hm (fun p_rest vv6 G6 H6 e6 hs hv6 hm => ?_)
        obtain ⟨v_p_rest, rfl, h_p_rest⟩ := hv6
        cases (show v_p_rest = V.int p_rest from h_p_rest)
        have h_p_sizes := ((rK zI)).mono e6 h_p_sizes
        have h_p_parts := RLs.mono e6 h_p_parts
        have b3 := Same.trans b3 e6
        refine (show (_ : TS) _ ([some (.int p_cell), some v_p_sizes, some (.ref l_p_parts), some (.int p_rest), some (.int p_k), d_5] : L2.St) _ from ?_)
        refine nx_of ?_
        refine (show (_ : TS) _ ([some (.int p_cell), some v_p_sizes, some (.ref l_p_parts), some (.int p_rest), some (.int p_k), d_5] : L2.St) _ from ?_)
        exact E3.nx (p_parts, p_rest) _ _ _ _ _ b3 ⟨l_p_parts, vs_p_parts, some (.int p_k), d_5, rfl, rfl, h_p_parts⟩ (Same.refl _) hs hm.out
      · have h_p_sizes := ((rK zI)).mono e4 h_p_sizes
        have h_p_parts := RLs.mono e4 h_p_parts
        have b3 := Same.trans b3 e4
        refine w_asg (K := K) (tg_name (i := 5) (R := zI)) (e_mod (e_intI (e_add (e_add (e_mul (e_var (K := K) (i := 0) (R := zI) (x := p_cell) rfl rfl) e_int) (e_mul (e_var (K := K) (i := 4) (R := zI) (x := p_k) rfl rfl) e_int)) e_int)) e_int) hs hm (fun p_mixed vv7 G7 H7 e7 hs hv7 hm => ?_)
        obtain ⟨v_p_mixed, rfl, h_p_mixed⟩ := hv7
        cases (show v_p_mixed = V.int p_mixed from h_p_mixed)
        have h_p_sizes := ((rK zI)).mono e7 h_p_sizes
        have h_p_parts := RLs.mono e7 h_p_parts
        have b3 := Same.trans b3 e7
        refine (show (_ : TS) _ ([some (.int p_cell), some v_p_sizes, some (.ref l_p_parts), some (.int p_rest), some (.int p_k), some (.int p_mixed)] : L2.St) _ from ?_)
        refine w_asg (K := K) (tg_name (i := 5) (R := zI)) (e_mod (e_intI (e_add (e_add (e_mul (e_var (K := K) (i := 5) (R := zI) (x := p_mixed) rfl rfl) (e_var (K := K) (i := 5) (R := zI) (x := p_mixed) rfl rfl)) (e_mul e_int (e_var (K := K) (i := 4) (R := zI) (x := p_k) rfl rfl))) e_int)) e_int) hs hm (fun p_mixed vv8 G8 H8 e8 hs hv8 hm => ?_)
        obtain ⟨v_p_mixed, rfl, h_p_mixed⟩ := hv8
        cases (show v_p_mixed = V.int p_mixed from h_p_mixed)
        have h_p_sizes := ((rK zI)).mono e8 h_p_sizes
        have h_p_parts := RLs.mono e8 h_p_parts
        have b3 := Same.trans b3 e8
        refine (show (_ : TS) _ ([some (.int p_cell), some v_p_sizes, some (.ref l_p_parts), some (.int p_rest), some (.int p_k), some (.int p_mixed)] : L2.St) _ from ?_)
        refine w_app (K := K) (i := 2) 0 (xs := p_parts) rfl rfl h_p_parts (e_mod (e_intI (e_var (K := K) (i := 5) (R := zI) (x := p_mixed) rfl rfl)) (e_ixL (e_KL (e_var (K := K) (i := 1) (R := (rK zI)) (x := p_sizes) rfl h_p_sizes)) (e_var (K := K) (i := 4) (R := zI) (x := p_k) rfl rfl))) hs hm (fun y9 w9 G9 H9 e9 hs h9 hm => ?_)
        have h_p_sizes := ((rK zI)).mono e9 h_p_sizes
        have b3 := Same.trans b3 e9
        have h_p_parts := h9
        generalize p_parts ++ [y9] = p_parts at hm h_p_parts
        generalize vs_p_parts ++ [w9] = vs_p_parts at hs h_p_parts
        refine nx_of ?_
        refine (show (_ : TS) _ ([some (.int p_cell), some v_p_sizes, some (.ref l_p_parts), some (.int p_rest), some (.int p_k), some (.int p_mixed)] : L2.St) _ from ?_)
        exact E3.nx (p_parts, p_rest) _ _ _ _ _ b3 ⟨l_p_parts, vs_p_parts, some (.int p_k), some (.int p_mixed), rfl, rfl, h_p_parts⟩ (Same.refl _) hs hm.out
    · obtain ⟨p_parts, p_rest⟩ := s_
      obtain ⟨l_p_parts, vs_p_parts, d_4, d_5, rfl, rfl, h_p_parts⟩ := w_
      have h_p_sizes := ((rK zI)).mono e3 h_p_sizes
      have h_p_parts := RLs.mono e13 h_p_parts
      refine (show (_ : TS) _ ([some (.int p_cell), some v_p_sizes, some (.ref l_p_parts), some (.int p_rest), d_4, d_5] : L2.St) _ from ?_)
      try dsimp only at hm
      have ng10 := (hs.at 0 rfl).2.1
      have eg10 := same_new (o := HO.lst vs_p_parts) ng10
      have hs := hs.give 0 rfl
      have h_p_parts : (rK zI).r K _ (.ref l_p_parts) p_parts := ⟨l_p_parts, vs_p_parts, rfl, upd_same, RLs.mono eg10 h_p_parts⟩
      have h_p_sizes := ((rK zI)).mono eg10 h_p_sizes
      exact w_ret0 (K := K) (e_var (K := K) (i := 2) (R := (rK zI)) (x := p_parts) rfl h_p_parts) hs hm fun r v G2 H2 hs2 hr2 hq => hq v G2 H2 hs2.fin hr2

theorem ok_law_is_integer {P : Program} {w : World} {K : PySem.W.Frag} {mg : Str → Option Value} {base : Heap} {cl : Nat → Addr} {fa : Addr} {fd : FuncData} (F : Fun K "_law_is_integer" "_law_is_integer" s_law_is_integer fa fd) (T : Txt K mg cl)  :
    FnOk P w K mg base (L2.CX P w) 1 fa fd ["actual"] (spP K cl (rs1 (rO zI)) rB (fun a => m_law_is_integer a)) := by
  refine F.okX sc_law_is_integer (fun vs H Q E h => ?_) (fun cdv A outer s H vs Q E hr h => ?_)
  · obtain ⟨G, a, _, hS, _⟩ := h
    exact ln1 _ _ _ _ hS
  · obtain ⟨G, p_actual, hg, hS, hm⟩ := h
    obtain ⟨v_p_actual, rfl, h_p_actual⟩ := hS
    refine ⟨_, (pss_cons (ps_ret (pe_and (pe_callB (r := rIsi K) call_isi (by rfl) T.n_isinstance b_isinstance (pa_cons (pv 0) (pa_cons (pe_bltn (v := .ty "int") (by rfl) T.n_int b_int rfl) pa_nil))) (pe_one (pe_not (pe_callB (r := rIsi K) call_isi (by rfl) T.n_isinstance b_isinstance (pa_cons (pv 0) (pa_cons (pe_bltn (v := .ty "bool") (by rfl) T.n_bool b_bool rfl) pa_nil)))))))
     pss_nil), ?_⟩
    have hs : Hs ⟨H, G, E, cl⟩ G [] H := Hs.start hg
    have hm := Wp.ofSp (G0 := G) hm
    dsimp only at hm
    unfold m_law_is_integer at hm
    refine (show (_ : TS) _ ([some v_p_actual] : L2.St) _ from ?_)
    exact w_ret0 (K := K) (e_and (e_isi (g := fun o => o.isSome) ty_OI isi_OI_int (e_var (K := K) (i := 0) (R := (rO zI)) (x := p_actual) rfl h_p_actual)) (e_not (e_isi (g := fun _ => false) ty_OI isi_OI_bool (e_var (K := K) (i := 0) (R := (rO zI)) (x := p_actual) rfl h_p_actual)))) hs hm fun r v G2 H2 hs2 hr2 hq => hq v G2 H2 hs2.fin hr2

theorem ok_law_drawn {P : Program} {w : World} {K : PySem.W.Frag} {mg : Str → Option Value} {base : Heap} {cl : Nat → Addr} {fa : Addr} {fd : FuncData} (F : Fun K "_law_drawn" "_law_drawn" s_law_drawn fa fd) (T : Txt K mg cl) (C_law_parts : Cal P w K mg base "_law_parts" 1 ["cell", "sizes"] (spP K cl (rsC zI (rs1 (rK zI))) (rK zI) (fun a => m_law_parts (a.1) (a.2)))) (C_law_far : Cal P w K mg base "_law_far" 1 ["script", "k"] (spP K cl (rsC (rL zI) (rs1 zI)) zI (fun a => m_law_far (a.1) (a.2)))) :
    FnOk P w K mg base (L2.CX P w) 2 fa fd ["script", "at", "inputs", "outputs", "states"] (spP K cl (rsC (rL zI) (rsC zI (rsC zI (rsC zI (rs1 zI))))) (rP (rsC zI (rsC zI (rs1 (rT (rT (rP (rsC zI (rs1 zI))))))))) (fun a => m_law_drawn (a.1) (a.2.1) (a.2.2.1) (a.2.2.2.1) (a.2.2.2.2))) := by
  refine F.okX sc_law_drawn (fun vs H Q E h => ?_) (fun cdv A outer s H vs Q E hr h => ?_)
  · obtain ⟨G, a, _, hS, _⟩ := h
    exact (lnC (lnC (lnC (lnC ln1)))) _ _ _ _ hS
  · obtain ⟨G, ⟨p_script, p_at, p_inputs, p_outputs, p_states⟩, hg, hS, hm⟩ := h
    obtain ⟨v_p_script, _, rfl, h_p_script, v_p_at, _, rfl, h_p_at, v_p_inputs, _, rfl, h_p_inputs, v_p_outputs, _, rfl, h_p_outputs, v_p_states, rfl, h_p_states⟩ := hS
    cases (show v_p_at = V.int p_at from h_p_at)
    cases (show v_p_inputs = V.int p_inputs from h_p_inputs)
    cases (show v_p_outputs = V.int p_outputs from h_p_outputs)
    cases (show v_p_states = V.int p_states from h_p_states)
    have tk : Takes (cxOf (L2.CX P w) P w K mg base N_law_drawn "_law_drawn" (defScope s_law_drawn) fa cdv A outer s H E) (fun cls d _ H => E cls d H) := takes_of rfl rfl rfl rfl
    refine ⟨_, (pss_cons (ps_set (i := 5) sc_law_drawn.nd rfl (by first | exact Or.inl rfl | exact Or.inr rfl) (pe_lst pa_nil))
     (pss_cons (ps_for (passes_of rfl) rfl (pi_range1 rfl T.n_range (pa_cons (pv 4) pa_nil)) (pg_name (i := 6) sc_law_drawn.nd rfl (by first | exact Or.inl rfl | exact Or.inr rfl)) (pss_cons (ps_set (i := 7) sc_law_drawn.nd rfl (by first | exact Or.inl rfl | exact Or.inr rfl) (pe_call (E := E) C_law_parts.ok (hr.mono (by decide)) rfl C_law_parts.mgx C_law_parts.kp C_law_parts.bd .nil (passes_call tk (fun _ _ _ _ h => h)) (pa_cons (pe_call (E := E) C_law_far.ok (hr.mono (by decide)) rfl C_law_far.mgx C_law_far.kp C_law_far.bd .nil (passes_call tk (fun _ _ _ _ h => h)) (pa_cons (pv 0) (pa_cons (pe_op op_add (pv 1) (pv 6)) pa_nil))) (pa_cons (pe_op op_rep (pe_lst (pa_cons pe_int (pa_cons pe_int pa_nil))) (pe_op op_shl pe_int (pv 2))) pa_nil))))
     (pss_cons (ps_setLc (i := 8) (own := [("i", 9)]) rfl sc_law_drawn.nd rfl rfl (sw_true rfl rfl rfl (by decide +kernel)) (pi_range1 rfl T.n_range (pa_cons (pe_op op_shl pe_int (pv 2)) pa_nil)) (blkOk_by (own := [("i", 9)]) (N := N_law_drawn) (sc := defScope s_law_drawn) (by decide +kernel)) (fun _ _ _ _ _ => (pg_name (i := 9) sc_law_drawn.nd rfl (by first | exact Or.inl rfl | exact Or.inr rfl))) (fun _ _ _ _ _ => pts_nil) (fun _ _ _ _ _ => (pe_tup (pa_cons (pe_op op_mod (pe_callTy call_int1 (by rfl) T.n_int b_int (pa_cons (pe_ix (r := rIxL K) ix_list (pv 7) (pe_op op_mul pe_int (pv 9)) (fun _ _ => rfl)) pa_nil)) (pv 4)) (pa_cons (pe_op op_mod (pe_callTy call_int1 (by rfl) T.n_int b_int (pa_cons (pe_ix (r := rIxL K) ix_list (pv 7) (pe_op op_add (pe_op op_mul pe_int (pv 9)) pe_int) (fun _ _ => rfl)) pa_nil)) (pe_op op_shl pe_int (pv 3))) pa_nil)))))
     (pss_cons (ps_expr (pe_bm PySem.F.plainAttrs_list PySem.F.slot_list_append PySem.F.type_list_append mt_append (pv 5) (pa_cons (pe_callTy (r := rTu K) call_tuple_of (by rfl) T.n_tuple b_tuple (pa_cons (pv 8) pa_nil)) pa_nil)))
     pss_nil))))
     (pss_cons (ps_ret (pe_tup (pa_cons (pv 2) (pa_cons (pv 3) (pa_cons (pe_callTy (r := rTu K) call_tuple_of (by rfl) T.n_tuple b_tuple (pa_cons (pv 5) pa_nil)) pa_nil)))))
     pss_nil))), ?_⟩
    have hs : Hs ⟨H, G, E, cl⟩ G [] H := Hs.start hg
    have hm := Wp.ofSp (G0 := G) hm
    dsimp only at hm
    unfold m_law_drawn at hm
    refine (show (_ : TS) _ ([some v_p_script, some (.int p_at), some (.int p_inputs), some (.int p_outputs), some (.int p_states), none, none, none, none, none] : L2.St) _ from ?_)
    refine w_asgN (K := K) (R := (rT (rP (rsC zI (rs1 zI))))) (i := 5) (e_lst l_nil (by decide)) hs hm (fun p_rows l_p_rows vs_p_rows G1 H1 e1 hs h1 hm => ?_)
    have h_p_script := ((rL zI)).mono e1 h_p_script
    have h_p_rows := h1
    refine (show (_ : TS) _ ([some v_p_script, some (.int p_at), some (.int p_inputs), some (.int p_outputs), some (.int p_states), some (.ref l_p_rows), none, none, none, none] : L2.St) _ from ?_)
    refine w_forM (K := K) (fun (p_rows : (List (List (Int × Int)))) (σ : L2.St) (G : Hp) (O : Own) => ∃ (l_p_rows : Addr) (vs_p_rows : List V) (d_6 : Option V) (d_7 : Option V) (d_8 : Option V), σ = [some v_p_script, some (.int p_at), some (.int p_inputs), some (.int p_outputs), some (.int p_states), some (.ref l_p_rows), d_6, d_7, d_8, none] ∧ O = [(l_p_rows, .lst vs_p_rows)] ∧ RLs (rT (rP (rsC zI (rs1 zI)))) K G vs_p_rows p_rows) (i_rng1 (e_var (K := K) (i := 4) (R := zI) (x := p_states) rfl rfl)) (fun _ _ _ _ _ _ h => nomatch h) (tg_name (i := 6) (R := zI)) hs hm ⟨l_p_rows, vs_p_rows, none, none, none, rfl, rfl, h_p_rows⟩ (fun p_k p_rows σ_ G1_2 G2 O_ H2 vv2 D2 Qb2 e2 w_ e12 hs hv2 E2 hm => ?_) (fun p_rows σ_ G1_2 G2 O_ H2 e2 w_ e12 hs hm => ?_)
    · obtain ⟨l_p_rows, vs_p_rows, d_6, d_7, d_8, rfl, rfl, h_p_rows⟩ := w_
      have h_p_script := ((rL zI)).mono e2 h_p_script
      have h_p_rows := RLs.mono e12 h_p_rows
      obtain ⟨v_p_k, rfl, h_p_k⟩ := hv2
      cases (show v_p_k = V.int p_k from h_p_k)
      have b2 := Same.refl G2
      refine (show (_ : TS) _ ([some v_p_script, some (.int p_at), some (.int p_inputs), some (.int p_outputs), some (.int p_states), some (.ref l_p_rows), some (.int p_k), d_7, d_8, none] : L2.St) _ from ?_)
      unfold m_law_drawn_b8 at hm
      try dsimp only at hm
      refine w_asg (K := K) (tg_name (i := 7) (R := (rK zI))) (e_call (fm := ⟨H, G, E, cl⟩) (a_cons (e_call (fm := ⟨H, G, E, cl⟩) (a_cons (e_var (K := K) (i := 0) (R := (rL zI)) (x := p_script) rfl h_p_script) (a_one (e_add (e_var (K := K) (i := 1) (R := zI) (x := p_at) rfl rfl) (e_var (K := K) (i := 6) (R := zI) (x := p_k) rfl rfl))))) (a_one (EvN.evK (n_rep (EvN.evK (e_lst (l_cons e_int (l_cons e_int l_nil)) (by decide))) (e_shl e_int (e_var (K := K) (i := 2) (R := zI) (x := p_inputs) rfl rfl))))))) hs hm (fun p_parts vv3 G3 H3 e3 hs hv3 hm => ?_)
      obtain ⟨v_p_parts, rfl, h_p_parts⟩ := hv3
      have h_p_script := ((rL zI)).mono e3 h_p_script
      have h_p_rows := RLs.mono e3 h_p_rows
      have b2 := Same.trans b2 e3
      refine (show (_ : TS) _ ([some v_p_script, some (.int p_at), some (.int p_inputs), some (.int p_outputs), some (.int p_states), some (.ref l_p_rows), some (.int p_k), some v_p_parts, d_8, none] : L2.St) _ from ?_)
      refine w_asg (K := K) (tg_name (i := 8) (R := (rK (rP (rsC zI (rs1 zI)))))) (EvN.evK (n_lc (S := (rP (rsC zI (rs1 zI)))) (i_rng1 (e_shl e_int (e_var (K := K) (i := 2) (R := zI) (x := p_inputs) rfl rfl))) (fun _ h => nomatch h) (tg_name (i := 9) (R := zI)) (by decide) (fun x4 vs4 G4 e4 hv4 => by
       obtain ⟨v4_p_i, rfl, h4_p_i⟩ := hv4
       exact ⟨t_yes, (e_tup (lnC ln1) (a_cons (e_mod (e_intI (e_ixL (e_KL (e_var (K := K) (i := 7) (R := (rK zI)) (x := p_parts) rfl (((rK zI)).mono e4 h_p_parts))) (e_mul e_int (e_var (K := K) (i := 9) (R := zI) (x := x4) rfl h4_p_i)))) (e_var (K := K) (i := 4) (R := zI) (x := p_states) rfl rfl)) (a_one (e_mod (e_intI (e_ixL (e_KL (e_var (K := K) (i := 7) (R := (rK zI)) (x := p_parts) rfl (((rK zI)).mono e4 h_p_parts))) (e_add (e_mul e_int (e_var (K := K) (i := 9) (R := zI) (x := x4) rfl h4_p_i)) e_int))) (e_shl e_int (e_var (K := K) (i := 3) (R := zI) (x := p_outputs) rfl rfl))))) (by decide))⟩))) hs hm (fun p_row vv5 G5 H5 e5 hs hv5 hm => ?_)
      obtain ⟨v_p_row, rfl, h_p_row⟩ := hv5
      have h_p_script := ((rL zI)).mono e5 h_p_script
      have h_p_rows := RLs.mono e5 h_p_rows
      have h_p_parts := ((rK zI)).mono e5 h_p_parts
      have b2 := Same.trans b2 e5
      refine (show (_ : TS) _ ([some v_p_script, some (.int p_at), some (.int p_inputs), some (.int p_outputs), some (.int p_states), some (.ref l_p_rows), some (.int p_k), some v_p_parts, some v_p_row, none] : L2.St) _ from ?_)
      refine w_app (K := K) (i := 5) 0 (xs := p_rows) rfl rfl h_p_rows (e_tupleL (e_KL (e_var (K := K) (i := 8) (R := (rK (rP (rsC zI (rs1 zI))))) (x := p_row) rfl h_p_row))) hs hm (fun y6 w6 G6 H6 e6 hs h6 hm => ?_)
      have h_p_script := ((rL zI)).mono e6 h_p_script
      have h_p_parts := ((rK zI)).mono e6 h_p_parts
      have h_p_row := ((rK (rP (rsC zI (rs1 zI))))).mono e6 h_p_row
      have b2 := Same.trans b2 e6
      have h_p_rows := h6
      generalize p_rows ++ [y6] = p_rows at hm h_p_rows
      generalize vs_p_rows ++ [w6] = vs_p_rows at hs h_p_rows
      exact E2.nx p_rows _ _ _ _ _ b2 ⟨l_p_rows, vs_p_rows, some (.int p_k), some v_p_parts, some v_p_row, rfl, rfl, h_p_rows⟩ (Same.refl _) hs hm.out
    · obtain ⟨l_p_rows, vs_p_rows, d_6, d_7, d_8, rfl, rfl, h_p_rows⟩ := w_
      have h_p_script := ((rL zI)).mono e2 h_p_script
      have h_p_rows := RLs.mono e12 h_p_rows
      refine (show (_ : TS) _ ([some v_p_script, some (.int p_at), some (.int p_inputs), some (.int p_outputs), some (.int p_states), some (.ref l_p_rows), d_6, d_7, d_8, none] : L2.St) _ from ?_)
      try dsimp only at hm
      have ng7 := (hs.at 0 rfl).2.1
      have eg7 := same_new (o := HO.lst vs_p_rows) ng7
      have hs := hs.give 0 rfl
      have h_p_rows : (rK (rT (rP (rsC zI (rs1 zI))))).r K _ (.ref l_p_rows) p_rows := ⟨l_p_rows, vs_p_rows, rfl, upd_same, RLs.mono eg7 h_p_rows⟩
      have h_p_script := ((rL zI)).mono eg7 h_p_script
      exact w_ret0 (K := K) (e_tup (lnC (lnC ln1)) (a_cons (e_var (K := K) (i := 2) (R := zI) (x := p_inputs) rfl rfl) (a_cons (e_var (K := K) (i := 3) (R := zI) (x := p_outputs) rfl rfl) (a_one (e_tupleL (e_KL (e_var (K := K) (i := 5) (R := (rK (rT (rP (rsC zI (rs1 zI)))))) (x := p_rows) rfl h_p_rows)))))) (by decide)) hs hm fun r v G2 H2 hs2 hr2 hq => hq v G2 H2 hs2.fin hr2

theorem ok_law_same_table {P : Program} {w : World} {K : PySem.W.Frag} {mg : Str → Option Value} {base : Heap} {cl : Nat → Addr} {fa : Addr} {fd : FuncData} (F : Fun K "_law_same_table" "_law_same_table" s_law_same_table fa fd) (T : Txt K mg cl) (C_law_is_integer : Cal P w K mg base "_law_is_integer" 1 ["actual"] (spP K cl (rs1 (rO zI)) rB (fun a => m_law_is_integer a))) :
    FnOk P w K mg base (L2.CX P w) 2 fa fd ["actual", "expected"] (spP K cl (rsC (rP (rsC zI (rsC zI (rs1 (rT (rT (rP (rsC zI (rs1 zI))))))))) (rs1 (rP (rsC zI (rsC zI (rs1 (rT (rT (rP (rsC zI (rs1 zI))))))))))) rB (fun a => m_law_same_table (a.1) (a.2))) := by
  refine F.okX sc_law_same_table (fun vs H Q E h => ?_) (fun cdv A outer s H vs Q E hr h => ?_)
  · obtain ⟨G, a, _, hS, _⟩ := h
    exact (lnC ln1) _ _ _ _ hS
  · obtain ⟨G, ⟨p_actual, p_expected⟩, hg, hS, hm⟩ := h
    obtain ⟨v_p_actual, _, rfl, h_p_actual, v_p_expected, rfl, h_p_expected⟩ := hS
    have tk : Takes (cxOf (L2.CX P w) P w K mg base N_law_same_table "_law_same_table" (defScope s_law_same_table) fa cdv A outer s H E) (fun cls d _ H => E cls d H) := takes_of rfl rfl rfl rfl
    refine ⟨_, (pss_cons (ps_if (PW.pt (pw_or (pt_not (pt_val (pe_callB (r := rIsi K) call_isi (by rfl) T.n_isinstance b_isinstance (pa_cons (pv 0) (pa_cons (pe_bltn (v := .ty "tuple") (by rfl) T.n_tuple b_tuple rfl) pa_nil))))) (pw_or (pt_cmpR op_ne (pe_callB (r := rLen K) call_len (by rfl) T.n_len b_len (pa_cons (pv 0) pa_nil)) pe_int (nomark _)) (pw_or1 (pt_not (pt_val (pe_callB (r := rIsi K) call_isi (by rfl) T.n_isinstance b_isinstance (pa_cons (pe_ix (r := rIxT K) ix_tup (pv 0) pe_int (fun _ _ => rfl)) (pa_cons (pe_bltn (v := .ty "tuple") (by rfl) T.n_tuple b_tuple rfl) pa_nil))))))))) (pss_cons (ps_ret pe_bl)
     pss_nil) pss_nil)
     (pss_cons (ps_if (PW.pt (pw_or (pt_not (pt_val (pe_call (E := E) C_law_is_integer.ok (hr.mono (by decide)) rfl C_law_is_integer.mgx C_law_is_integer.kp C_law_is_integer.bd .nil (passes_call tk (fun _ _ _ _ h => h)) (pa_cons (pe_ix (r := rIxT K) ix_tup (pv 0) pe_int (fun _ _ => rfl)) pa_nil)))) (pw_or1 (pt_not (pt_val (pe_call (E := E) C_law_is_integer.ok (hr.mono (by decide)) rfl C_law_is_integer.mgx C_law_is_integer.kp C_law_is_integer.bd .nil (passes_call tk (fun _ _ _ _ h => h)) (pa_cons (pe_ix (r := rIxT K) ix_tup (pv 0) pe_int (fun _ _ => rfl)) pa_nil))))))) (pss_cons (ps_ret pe_bl)
     pss_nil) pss_nil)
     (pss_cons (ps_for (passes_of rfl) rfl (pi_tup (pe_ix (r := rIxT K) ix_tup (pv 0) pe_int (fun _ _ => rfl))) (pg_name (i := 2) sc_law_same_table.nd rfl (by first | exact Or.inl rfl | exact Or.inr rfl)) (pss_cons (ps_if (pt_not (pt_val (pe_callB (r := rIsi K) call_isi (by rfl) T.n_isinstance b_isinstance (pa_cons (pv 2) (pa_cons (pe_bltn (v := .ty "tuple") (by rfl) T.n_tuple b_tuple rfl) pa_nil))))) (pss_cons (ps_ret pe_bl)
     pss_nil) pss_nil)
     (pss_cons (ps_for (passes_of rfl) rfl (pi_tup (pv 2)) (pg_name (i := 3) sc_law_same_table.nd rfl (by first | exact Or.inl rfl | exact Or.inr rfl)) (pss_cons (ps_if (PW.pt (pw_or (pt_not (pt_val (pe_callB (r := rIsi K) call_isi (by rfl) T.n_isinstance b_isinstance (pa_cons (pv 3) (pa_cons (pe_bltn (v := .ty "tuple") (by rfl) T.n_tuple b_tuple rfl) pa_nil))))) (pw_or1 (pt_cmpR op_ne (pe_callB (r := rLen K) call_len (by rfl) T.n_len b_len (pa_cons (pv 3) pa_nil)) pe_int (nomark _))))) (pss_cons (ps_ret pe_bl)
     pss_nil) pss_nil)
     (pss_cons (ps_if (PW.pt (pw_or (pt_not (pt_val (pe_call (E := E) C_law_is_integer.ok (hr.mono (by decide)) rfl C_law_is_integer.mgx C_law_is_integer.kp C_law_is_integer.bd .nil (passes_call tk (fun _ _ _ _ h => h)) (pa_cons (pe_ix (r := rIxT K) ix_tup (pv 3) pe_int (fun _ _ => rfl)) pa_nil)))) (pw_or1 (pt_not (pt_val (pe_call (E := E) C_law_is_integer.ok (hr.mono (by decide)) rfl C_law_is_integer.mgx C_law_is_integer.kp C_law_is_integer.bd .nil (passes_call tk (fun _ _ _ _ h => h)) (pa_cons (pe_ix (r := rIxT K) ix_tup (pv 3) pe_int (fun _ _ => rfl)) pa_nil))))))) (pss_cons (ps_ret pe_bl)
     pss_nil) pss_nil)
     pss_nil)))
     pss_nil)))
     (pss_cons (ps_ret (pe_cmpR (r := rEqD K) (op_eqD hr.units) (pv 0) (pv 1) (nomark _)))
     pss_nil)))), ?_⟩
    have hs : Hs ⟨H, G, E, cl⟩ G [] H := Hs.start hg
    have hm := Wp.ofSp (G0 := G) hm
    dsimp only at hm
    unfold m_law_same_table at hm
    refine (show (_ : TS) _ ([some v_p_actual, some v_p_expected, none, none] : L2.St) _ from ?_)
    refine w_if (t_or (t_not (t_val (K := K) (e_isi (g := fun _ => true) ty_P (fun _ => by decide +kernel) (e_var (K := K) (i := 0) (R := (rP (rsC zI (rsC zI (rs1 (rT (rT (rP (rsC zI (rs1 zI)))))))))) (x := p_actual) rfl h_p_actual)))) (t_or (t_test (K := K) (e_ne srI (e_lenP (lnC (lnC ln1)) (e_var (K := K) (i := 0) (R := (rP (rsC zI (rsC zI (rs1 (rT (rT (rP (rsC zI (rs1 zI)))))))))) (x := p_actual) rfl h_p_actual)) e_int)) (t_not (t_val (K := K) (e_isi (g := fun _ => true) ty_T (fun _ => by decide +kernel) (e_proj (k := 2) (pjS (pjS pj1)) (e_var (K := K) (i := 0) (R := (rP (rsC zI (rsC zI (rs1 (rT (rT (rP (rsC zI (rs1 zI)))))))))) (x := p_actual) rfl h_p_actual))))))) hs hm (fun G1 H1 e1 hs hm => ?_) (fun G1 H1 e1 hs hm => ?_)
    · have h_p_actual := ((rP (rsC zI (rsC zI (rs1 (rT (rT (rP (rsC zI (rs1 zI)))))))))).mono e1 h_p_actual
      have h_p_expected := ((rP (rsC zI (rsC zI (rs1 (rT (rT (rP (rsC zI (rs1 zI)))))))))).mono e1 h_p_expected
      exact w_ret0 (K := K) e_bl hs hm fun r v G2 H2 hs2 hr2 hq => hq v G2 H2 hs2.fin hr2
    · have h_p_actual := ((rP (rsC zI (rsC zI (rs1 (rT (rT (rP (rsC zI (rs1 zI)))))))))).mono e1 h_p_actual
      have h_p_expected := ((rP (rsC zI (rsC zI (rs1 (rT (rT (rP (rsC zI (rs1 zI)))))))))).mono e1 h_p_expected
      refine nx_of ?_
      refine (show (_ : TS) _ ([some v_p_actual, some v_p_expected, none, none] : L2.St) _ from ?_)
      refine w_if (t_or (t_not (t_val (K := K) (e_call (fm := ⟨H, G, E, cl⟩) (a_one (e_some nn_I (e_proj (k := 0) pj0 (e_var (K := K) (i := 0) (R := (rP (rsC zI (rsC zI (rs1 (rT (rT (rP (rsC zI (rs1 zI)))))))))) (x := p_actual) rfl h_p_actual))))))) (t_not (t_val (K := K) (e_call (fm := ⟨H, G, E, cl⟩) (a_one (e_some nn_I (e_proj (k := 1) (pjS pj0) (e_var (K := K) (i := 0) (R := (rP (rsC zI (rsC zI (rs1 (rT (rT (rP (rsC zI (rs1 zI)))))))))) (x := p_actual) rfl h_p_actual)))))))) hs hm (fun G2 H2 e2 hs hm => ?_) (fun G2 H2 e2 hs hm => ?_)
      · have h_p_actual := ((rP (rsC zI (rsC zI (rs1 (rT (rT (rP (rsC zI (rs1 zI)))))))))).mono e2 h_p_actual
        have h_p_expected := ((rP (rsC zI (rsC zI (rs1 (rT (rT (rP (rsC zI (rs1 zI)))))))))).mono e2 h_p_expected
        exact w_ret0 (K := K) e_bl hs hm fun r v G2 H2 hs2 hr2 hq => hq v G2 H2 hs2.fin hr2
      · have h_p_actual := ((rP (rsC zI (rsC zI (rs1 (rT (rT (rP (rsC zI (rs1 zI)))))))))).mono e2 h_p_actual
        have h_p_expected := ((rP (rsC zI (rsC zI (rs1 (rT (rT (rP (rsC zI (rs1 zI)))))))))).mono e2 h_p_expected
        refine nx_of ?_
        refine (show (_ : TS) _ ([some v_p_actual, some v_p_expected, none, none] : L2.St) _ from ?_)
        refine w_forB (K := K) (Rr := rB) (fun (_ : Unit) (σ : L2.St) (G : Hp) (O : Own) => ∃ (d_2 : Option V) (d_3 : Option V), σ = [some v_p_actual, some v_p_expected, d_2, d_3] ∧ O = []) (i_tup (e_proj (k := 2) (pjS (pjS pj1)) (e_var (K := K) (i := 0) (R := (rP (rsC zI (rsC zI (rs1 (rT (rT (rP (rsC zI (rs1 zI)))))))))) (x := p_actual) rfl h_p_actual))) (fun _ _ _ _ _ _ h => nomatch h) (tg_name (i := 2) (R := (rT (rP (rsC zI (rs1 zI)))))) hs hm ⟨none, none, rfl, rfl⟩ (fun r v G2 O2 H2 hs2 hr2 hq => hq v G2 H2 hs2.fin hr2) (fun p_row s_ σ_ G1_3 G3 O_ H3 vv3 D3 Qb3 e3 w_ e13 hs hv3 E3 hm => ?_) (fun s_ σ_ G1_3 G3 O_ H3 e3 w_ e13 hs hm => ?_)
        · obtain ⟨d_2, d_3, rfl, rfl⟩ := w_
          have h_p_actual := ((rP (rsC zI (rsC zI (rs1 (rT (rT (rP (rsC zI (rs1 zI)))))))))).mono e3 h_p_actual
          have h_p_expected := ((rP (rsC zI (rsC zI (rs1 (rT (rT (rP (rsC zI (rs1 zI)))))))))).mono e3 h_p_expected
          obtain ⟨v_p_row, rfl, h_p_row⟩ := hv3
          have b3 := Same.refl G3
          refine (show (_ : TS) _ ([some v_p_actual, some v_p_expected, some v_p_row, d_3] : L2.St) _ from ?_)
          unfold m_law_same_table_b9 at hm
          try dsimp only at hm
          refine w_if (t_not (t_val (K := K) (e_isi (g := fun _ => true) ty_T (fun _ => by decide +kernel) (e_var (K := K) (i := 2) (R := (rT (rP (rsC zI (rs1 zI))))) (x := p_row) rfl h_p_row)))) hs hm (fun G4 H4 e4 hs hm => ?_) (fun G4 H4 e4 hs hm => ?_)
          · have h_p_actual := ((rP (rsC zI (rsC zI (rs1 (rT (rT (rP (rsC zI (rs1 zI)))))))))).mono e4 h_p_actual
            have h_p_expected := ((rP (rsC zI (rsC zI (rs1 (rT (rT (rP (rsC zI (rs1 zI)))))))))).mono e4 h_p_expected
            have h_p_row := ((rT (rP (rsC zI (rs1 zI))))).mono e4 h_p_row
            have b3 := Same.trans b3 e4
            exact w_ret (K := K) (kr := Tn.rt) e_bl hs hm fun r v G2 H2 hs2 hr2 hq => E3.rt r v _ _ _ hs2 hr2 hq
          · have h_p_actual := ((rP (rsC zI (rsC zI (rs1 (rT (rT (rP (rsC zI (rs1 zI)))))))))).mono e4 h_p_actual
            have h_p_expected := ((rP (rsC zI (rsC zI (rs1 (rT (rT (rP (rsC zI (rs1 zI)))))))))).mono e4 h_p_expected
            have h_p_row := ((rT (rP (rsC zI (rs1 zI))))).mono e4 h_p_row
            have b3 := Same.trans b3 e4
            refine nx_of ?_
            refine (show (_ : TS) _ ([some v_p_actual, some v_p_expected, some v_p_row, d_3] : L2.St) _ from ?_)
            refine w_forB (K := K) (Rr := rB) (fun (_ : Unit) (σ : L2.St) (G : Hp) (O : Own) => ∃ (d_3 : Option V), σ = [some v_p_actual, some v_p_expected, some v_p_row, d_3] ∧ O = []) (i_tup (e_var (K := K) (i := 2) (R := (rT (rP (rsC zI (rs1 zI))))) (x := p_row) rfl h_p_row)) (fun _ _ _ _ _ _ h => nomatch h) (tg_name (i := 3) (R := (rP (rsC zI (rs1 zI))))) hs hm ⟨d_3, rfl, rfl⟩ (fun r v G2 O2 H2 hs2 hr2 hq => E3.rt r v _ _ _ hs2 hr2 hq) (fun p_pair s_ σ_ G1_5 G5 O_ H5 vv5 D5 Qb5 e5 w_ e15 hs hv5 E5 hm => ?_) (fun s_ σ_ G1_5 G5 O_ H5 e5 w_ e15 hs hm => ?_)
            · obtain ⟨d_3, rfl, rfl⟩ := w_
              have h_p_actual := ((rP (rsC zI (rsC zI (rs1 (rT (rT (rP (rsC zI (rs1 zI)))))))))).mono e5 h_p_actual
              have h_p_expected := ((rP (rsC zI (rsC zI (rs1 (rT (rT (rP (rsC zI (rs1 zI)))))))))).mono e5 h_p_expected
              have h_p_row := ((rT (rP (rsC zI (rs1 zI))))).mono e5 h_p_row
              obtain ⟨v_p_pair, rfl, h_p_pair⟩ := hv5
              have b5 := Same.refl G5
              refine (show (_ : TS) _ ([some v_p_actual, some v_p_expected, some v_p_row, some v_p_pair] : L2.St) _ from ?_)
              unfold m_law_same_table_b8 at hm
              try dsimp only at hm
              refine w_if (t_or (t_not (t_val (K := K) (e_isi (g := fun _ => true) ty_P (fun _ => by decide +kernel) (e_var (K := K) (i := 3) (R := (rP (rsC zI (rs1 zI)))) (x := p_pair) rfl h_p_pair)))) (t_test (K := K) (e_ne srI (e_lenP (lnC ln1) (e_var (K := K) (i := 3) (R := (rP (rsC zI (rs1 zI)))) (x := p_pair) rfl h_p_pair)) e_int))) hs hm (fun G6 H6 e6 hs hm => ?_) (fun G6 H6 e6 hs hm => ?_)
              · have h_p_actual := ((rP (rsC zI (rsC zI (rs1 (rT (rT (rP (rsC zI (rs1 zI)))))))))).mono e6 h_p_actual
                have h_p_expected := ((rP (rsC zI (rsC zI (rs1 (rT (rT (rP (rsC zI (rs1 zI)))))))))).mono e6 h_p_expected
                have h_p_row := ((rT (rP (rsC zI (rs1 zI))))).mono e6 h_p_row
                have h_p_pair := ((rP (rsC zI (rs1 zI)))).mono e6 h_p_pair
                have b5 := Same.trans b5 e6
                exact w_ret (K := K) (kr := Tn.rt) e_bl hs hm fun r v G2 H2 hs2 hr2 hq => E5.rt r v _ _ _ hs2 hr2 hq
              · have h_p_actual := ((rP (rsC zI (rsC zI (rs1 (rT (rT (rP (rsC zI (rs1 zI)))))))))).mono e6 h_p_actual
                have h_p_expected := ((rP (rsC zI (rsC zI (rs1 (rT (rT (rP (rsC zI (rs1 zI)))))))))).mono e6 h_p_expected
                have h_p_row := ((rT (rP (rsC zI (rs1 zI))))).mono e6 h_p_row
                have h_p_pair := ((rP (rsC zI (rs1 zI)))).mono e6 h_p_pair
                have b5 := Same.trans b5 e6
                refine nx_of ?_
                refine (show (_ : TS) _ ([some v_p_actual, some v_p_expected, some v_p_row, some v_p_pair] : L2.St) _ from ?_)
                refine w_if (t_or (t_not (t_val (K := K) (e_call (fm := ⟨H, G, E, cl⟩) (a_one (e_some nn_I (e_proj (k := 0) pj0 (e_var (K := K) (i := 3) (R := (rP (rsC zI (rs1 zI)))) (x := p_pair) rfl h_p_pair))))))) (t_not (t_val (K := K) (e_call (fm := ⟨H, G, E, cl⟩) (a_one (e_some nn_I (e_proj (k := 1) (pjS pj1) (e_var (K := K) (i := 3) (R := (rP (rsC zI (rs1 zI)))) (x := p_pair) rfl h_p_pair)))))))) hs hm (fun G7 H7 e7 hs hm => ?_) (fun G7 H7 e7 hs hm => ?_)
                · have h_p_actual := ((rP (rsC zI (rsC zI (rs1 (rT (rT (rP (rsC zI (rs1 zI)))))))))).mono e7 h_p_actual
                  have h_p_expected := ((rP (rsC zI (rsC zI (rs1 (rT (rT (rP (rsC zI (rs1 zI)))))))))).mono e7 h_p_expected
                  have h_p_row := ((rT (rP (rsC zI (rs1 zI))))).mono e7 h_p_row
                  have h_p_pair := ((rP (rsC zI (rs1 zI)))).mono e7 h_p_pair
                  have b5 := Same.trans b5 e7
                  exact w_ret (K := K) (kr := Tn.rt) e_bl hs hm fun r v G2 H2 hs2 hr2 hq => E5.rt r v _ _ _ hs2 hr2 hq
                · have h_p_actual := ((rP (rsC zI (rsC zI (rs1 (rT (rT (rP (rsC zI (rs1 zI)))))))))).mono e7 h_p_actual
                  have h_p_expected := ((rP (rsC zI (rsC zI (rs1 (rT (rT (rP (rsC zI (rs1 zI)))))))))).mono e7 h_p_expected
                  have h_p_row := ((rT (rP (rsC zI (rs1 zI))))).mono e7 h_p_row
                  have h_p_pair := ((rP (rsC zI (rs1 zI)))).mono e7 h_p_pair
                  have b5 := Same.trans b5 e7
                  refine nx_of ?_
                  refine (show (_ : TS) _ ([some v_p_actual, some v_p_expected, some v_p_row, some v_p_pair] : L2.St) _ from ?_)
                  exact E5.nx () _ _ _ _ _ b5 ⟨some v_p_pair, rfl, rfl⟩ (Same.refl _) hs hm.out
            · obtain ⟨d_3, rfl, rfl⟩ := w_
              have h_p_actual := ((rP (rsC zI (rsC zI (rs1 (rT (rT (rP (rsC zI (rs1 zI)))))))))).mono e5 h_p_actual
              have h_p_expected := ((rP (rsC zI (rsC zI (rs1 (rT (rT (rP (rsC zI (rs1 zI)))))))))).mono e5 h_p_expected
              have h_p_row := ((rT (rP (rsC zI (rs1 zI))))).mono e5 h_p_row
              have b3 := Same.trans b3 e5
              refine (show (_ : TS) _ ([some v_p_actual, some v_p_expected, some v_p_row, d_3] : L2.St) _ from ?_)
              try dsimp only at hm
              exact E3.nx () _ _ _ _ _ b3 ⟨some v_p_row, d_3, rfl, rfl⟩ (Same.refl _) hs hm.out
        · obtain ⟨d_2, d_3, rfl, rfl⟩ := w_
          have h_p_actual := ((rP (rsC zI (rsC zI (rs1 (rT (rT (rP (rsC zI (rs1 zI)))))))))).mono e3 h_p_actual
          have h_p_expected := ((rP (rsC zI (rsC zI (rs1 (rT (rT (rP (rsC zI (rs1 zI)))))))))).mono e3 h_p_expected
          refine (show (_ : TS) _ ([some v_p_actual, some v_p_expected, d_2, d_3] : L2.St) _ from ?_)
          try dsimp only at hm
          exact w_ret0 (K := K) (e_eqD (qP (qsC qI (qsC qI (qs1 (qT (qT (qP (qsC qI (qs1 qI))))))))) (by decide) (e_var (K := K) (i := 0) (R := (rP (rsC zI (rsC zI (rs1 (rT (rT (rP (rsC zI (rs1 zI)))))))))) (x := p_actual) rfl h_p_actual) (e_var (K := K) (i := 1) (R := (rP (rsC zI (rsC zI (rs1 (rT (rT (rP (rsC zI (rs1 zI)))))))))) (x := p_expected) rfl h_p_expected)) hs hm fun r v G2 H2 hs2 hr2 hq => hq v G2 H2 hs2.fin hr2

theorem ok_law_chained {P : Program} {w : World} {K : PySem.W.Frag} {mg : Str → Option Value} {base : Heap} {cl : Nat → Addr} {fa : Addr} {fd : FuncData} (F : Fun K "_law_chained" "_law_chained" s_law_chained fa fd) (T : Txt K mg cl) (C_law_parts : Cal P w K mg base "_law_parts" 1 ["cell", "sizes"] (spP K cl (rsC zI (rs1 (rK zI))) (rK zI) (fun a => m_law_parts (a.1) (a.2)))) :
    FnOk P w K mg base (L2.CX P w) 2 fa fd ["table", "drivers", "cell"] (spP K cl (rsC (rP (rsC zI (rsC zI (rs1 (rT (rT (rP (rsC zI (rs1 zI))))))))) (rsC zI (rs1 zI))) (rP (rsC zI (rsC zI (rs1 (rT (rT (rP (rsC zI (rs1 zI))))))))) (fun a => m_law_chained (a.1) (a.2.1) (a.2.2))) := by
  refine F.okX sc_law_chained (fun vs H Q E h => ?_) (fun cdv A outer s H vs Q E hr h => ?_)
  · obtain ⟨G, a, _, hS, _⟩ := h
    exact (lnC (lnC ln1)) _ _ _ _ hS
  · obtain ⟨G, ⟨p_table, p_drivers, p_cell⟩, hg, hS, hm⟩ := h
    obtain ⟨v_p_table, _, rfl, h_p_table, v_p_drivers, _, rfl, h_p_drivers, v_p_cell, rfl, h_p_cell⟩ := hS
    cases (show v_p_drivers = V.int p_drivers from h_p_drivers)
    cases (show v_p_cell = V.int p_cell from h_p_cell)
    have tk : Takes (cxOf (L2.CX P w) P w K mg base N_law_chained "_law_chained" (defScope s_law_chained) fa cdv A outer s H E) (fun cls d _ H => E cls d H) := takes_of rfl rfl rfl rfl
    refine ⟨_, (pss_cons (ps_set (i := 3) sc_law_chained.nd rfl (by first | exact Or.inl rfl | exact Or.inr rfl) (pe_lst pa_nil))
     (pss_cons (ps_for (passes_of rfl) rfl (pi_range1 rfl T.n_range (pa_cons (pe_callB (r := rLen K) call_len (by rfl) T.n_len b_len (pa_cons (pe_ix (r := rIxT K) ix_tup (pv 0) pe_int (fun _ _ => rfl)) pa_nil)) pa_nil)) (pg_name (i := 4) sc_law_chained.nd rfl (by first | exact Or.inl rfl | exact Or.inr rfl)) (pss_cons (ps_set (i := 5) sc_law_chained.nd rfl (by first | exact Or.inl rfl | exact Or.inr rfl) (pe_callTy (r := rLi K) call_list_of (by rfl) T.n_list b_list (pa_cons (pe_ix (r := rIxT K) ix_tup (pe_ix (r := rIxT K) ix_tup (pv 0) pe_int (fun _ _ => rfl)) (pv 4) (fun _ _ => rfl)) pa_nil)))
     (pss_cons (ps_set (i := 6) sc_law_chained.nd rfl (by first | exact Or.inl rfl | exact Or.inr rfl) (pe_call (E := E) C_law_parts.ok (hr.mono (by decide)) rfl C_law_parts.mgx C_law_parts.kp C_law_parts.bd .nil (passes_call tk (fun _ _ _ _ h => h)) (pa_cons (pe_op op_add (pv 2) (pv 4)) (pa_cons (pe_op op_rep (pe_lst (pa_cons pe_int (pa_cons pe_int pa_nil))) (pe_op op_shl pe_int (pv 1))) pa_nil))))
     (pss_cons (ps_if (pt_cmpR op_lt (pe_op op_add (pv 4) pe_int) (pe_callB (r := rLen K) call_len (by rfl) T.n_len b_len (pa_cons (pe_ix (r := rIxT K) ix_tup (pv 0) pe_int (fun _ _ => rfl)) pa_nil)) (nomark _)) (pss_cons (ps_for (passes_of rfl) rfl (pi_range1 rfl T.n_range (pa_cons (pe_op op_shl pe_int (pv 1)) pa_nil)) (pg_name (i := 7) sc_law_chained.nd rfl (by first | exact Or.inl rfl | exact Or.inr rfl)) (pss_cons (ps_set (i := 8) sc_law_chained.nd rfl (by first | exact Or.inl rfl | exact Or.inr rfl) (pe_op op_mod (pe_callTy call_int1 (by rfl) T.n_int b_int (pa_cons (pe_ix (r := rIxL K) ix_list (pv 6) (pe_op op_mul pe_int (pv 7)) (fun _ _ => rfl)) pa_nil)) (pe_op op_shl pe_int (pe_op op_sub (pe_ix (r := rIxT K) ix_tup (pv 0) pe_int (fun _ _ => rfl)) (pv 1)))))
     (pss_cons (ps_asg (pe_tup (pa_cons (pe_op op_add (pv 4) pe_int) (pa_cons (pe_op op_mod (pe_callTy call_int1 (by rfl) T.n_int b_int (pa_cons (pe_ix (r := rIxL K) ix_list (pv 6) (pe_op op_add (pe_op op_mul pe_int (pv 7)) pe_int) (fun _ _ => rfl)) pa_nil)) (pe_op op_shl pe_int (pe_ix (r := rIxT K) ix_tup (pv 0) pe_int (fun _ _ => rfl)))) pa_nil))) (pg_sub (pv 5) (pe_op op_add (pv 7) (pe_op op_mul (pv 8) (pe_op op_shl pe_int (pv 1)))) set_list))
     pss_nil)))
     pss_nil) pss_nil)
     (pss_cons (ps_expr (pe_bm PySem.F.plainAttrs_list PySem.F.slot_list_append PySem.F.type_list_append mt_append (pv 3) (pa_cons (pe_callTy (r := rTu K) call_tuple_of (by rfl) T.n_tuple b_tuple (pa_cons (pv 5) pa_nil)) pa_nil)))
     pss_nil)))))
     (pss_cons (ps_ret (pe_tup (pa_cons (pe_ix (r := rIxT K) ix_tup (pv 0) pe_int (fun _ _ => rfl)) (pa_cons (pe_ix (r := rIxT K) ix_tup (pv 0) pe_int (fun _ _ => rfl)) (pa_cons (pe_callTy (r := rTu K) call_tuple_of (by rfl) T.n_tuple b_tuple (pa_cons (pv 3) pa_nil)) pa_nil)))))
     pss_nil))), ?_⟩
    have hs : Hs ⟨H, G, E, cl⟩ G [] H := Hs.start hg
    have hm := Wp.ofSp (G0 := G) hm
    dsimp only at hm
    unfold m_law_chained at hm
    refine (show (_ : TS) _ ([some v_p_table, some (.int p_drivers), some (.int p_cell), none, none, none, none, none, none] : L2.St) _ from ?_)
    refine w_asgN (K := K) (R := (rT (rP (rsC zI (rs1 zI))))) (i := 3) (e_lst l_nil (by decide)) hs hm (fun p_rows l_p_rows vs_p_rows G1 H1 e1 hs h1 hm => ?_)
    have h_p_table := ((rP (rsC zI (rsC zI (rs1 (rT (rT (rP (rsC zI (rs1 zI)))))))))).mono e1 h_p_table
    have h_p_rows := h1
    refine (show (_ : TS) _ ([some v_p_table, some (.int p_drivers), some (.int p_cell), some (.ref l_p_rows), none, none, none, none, none] : L2.St) _ from ?_)
    refine w_forM (K := K) (fun (p_rows : (List (List (Int × Int)))) (σ : L2.St) (G : Hp) (O : Own) => ∃ (l_p_rows : Addr) (vs_p_rows : List V) (d_4 : Option V) (d_5 : Option V) (d_6 : Option V) (d_7 : Option V) (d_8 : Option V), σ = [some v_p_table, some (.int p_drivers), some (.int p_cell), some (.ref l_p_rows), d_4, d_5, d_6, d_7, d_8] ∧ O = [(l_p_rows, .lst vs_p_rows)] ∧ RLs (rT (rP (rsC zI (rs1 zI)))) K G vs_p_rows p_rows) (i_rng1 (e_len sq_T (e_proj (k := 2) (pjS (pjS pj1)) (e_var (K := K) (i := 0) (R := (rP (rsC zI (rsC zI (rs1 (rT (rT (rP (rsC zI (rs1 zI)))))))))) (x := p_table) rfl h_p_table)))) (fun _ _ _ _ _ _ h => nomatch h) (tg_name (i := 4) (R := zI)) hs hm ⟨l_p_rows, vs_p_rows, none, none, none, none, none, rfl, rfl, h_p_rows⟩ (fun p_state p_rows σ_ G1_2 G2 O_ H2 vv2 D2 Qb2 e2 w_ e12 hs hv2 E2 hm => ?_) (fun p_rows σ_ G1_2 G2 O_ H2 e2 w_ e12 hs hm => ?_)
    · obtain ⟨l_p_rows, vs_p_rows, d_4, d_5, d_6, d_7, d_8, rfl, rfl, h_p_rows⟩ := w_
      have h_p_table := ((rP (rsC zI (rsC zI (rs1 (rT (rT (rP (rsC zI (rs1 zI)))))))))).mono e2 h_p_table
      have h_p_rows := RLs.mono e12 h_p_rows
      obtain ⟨v_p_state, rfl, h_p_state⟩ := hv2
      cases (show v_p_state = V.int p_state from h_p_state)
      have b2 := Same.refl G2
      refine (show (_ : TS) _ ([some v_p_table, some (.int p_drivers), some (.int p_cell), some (.ref l_p_rows), some (.int p_state), d_5, d_6, d_7, d_8] : L2.St) _ from ?_)
      unfold m_law_chained_b14 at hm
      try dsimp only at hm
      refine w_asgN (K := K) (R := (rP (rsC zI (rs1 zI)))) (i := 5) (n_list sq_T (e_ixT (e_proj (k := 2) (pjS (pjS pj1)) (e_var (K := K) (i := 0) (R := (rP (rsC zI (rsC zI (rs1 (rT (rT (rP (rsC zI (rs1 zI)))))))))) (x := p_table) rfl h_p_table)) (e_var (K := K) (i := 4) (R := zI) (x := p_state) rfl rfl))) hs hm (fun p_row l_p_row vs_p_row G3 H3 e3 hs h3 hm => ?_)
      have h_p_table := ((rP (rsC zI (rsC zI (rs1 (rT (rT (rP (rsC zI (rs1 zI)))))))))).mono e3 h_p_table
      have h_p_rows := RLs.mono e3 h_p_rows
      have b2 := Same.trans b2 e3
      have h_p_row := h3
      refine (show (_ : TS) _ ([some v_p_table, some (.int p_drivers), some (.int p_cell), some (.ref l_p_rows), some (.int p_state), some (.ref l_p_row), d_6, d_7, d_8] : L2.St) _ from ?_)
      refine w_asg (K := K) (tg_name (i := 6) (R := (rK zI))) (e_call (fm := ⟨H, G, E, cl⟩) (a_cons (e_add (e_var (K := K) (i := 2) (R := zI) (x := p_cell) rfl rfl) (e_var (K := K) (i := 4) (R := zI) (x := p_state) rfl rfl)) (a_one (EvN.evK (n_rep (EvN.evK (e_lst (l_cons e_int (l_cons e_int l_nil)) (by decide))) (e_shl e_int (e_var (K := K) (i := 1) (R := zI) (x := p_drivers) rfl rfl))))))) hs hm (fun p_parts vv4 G4 H4 e4 hs hv4 hm => ?_)
      obtain ⟨v_p_parts, rfl, h_p_parts⟩ := hv4
      have h_p_table := ((rP (rsC zI (rsC zI (rs1 (rT (rT (rP (rsC zI (rs1 zI)))))))))).mono e4 h_p_table
      have h_p_rows := RLs.mono e4 h_p_rows
      have h_p_row := RLs.mono e4 h_p_row
      have b2 := Same.trans b2 e4
      refine (show (_ : TS) _ ([some v_p_table, some (.int p_drivers), some (.int p_cell), some (.ref l_p_rows), some (.int p_state), some (.ref l_p_row), some v_p_parts, d_7, d_8] : L2.St) _ from ?_)
      refine w_ifJ (k := fun s_ => (m_law_chained_j6 p_rows s_)) (fun (p_row : (List (Int × Int))) (σ : L2.St) (G : Hp) (O : Own) => ∃ (l_p_row : Addr) (vs_p_row : List V) (d_7 : Option V) (d_8 : Option V), σ = [some v_p_table, some (.int p_drivers), some (.int p_cell), some (.ref l_p_rows), some (.int p_state), some (.ref l_p_row), some v_p_parts, d_7, d_8] ∧ O = [(l_p_row, .lst vs_p_row), (l_p_rows, .lst vs_p_rows)] ∧ RLs (rP (rsC zI (rs1 zI))) K G vs_p_row p_row) (t_test (K := K) (e_cmp (p := fun i j => decide (i < j)) (e_add (e_var (K := K) (i := 4) (R := zI) (x := p_state) rfl rfl) e_int) (e_len sq_T (e_proj (k := 2) (pjS (pjS pj1)) (e_var (K := K) (i := 0) (R := (rP (rsC zI (rsC zI (rs1 (rT (rT (rP (rsC zI (rs1 zI)))))))))) (x := p_table) rfl h_p_table))))) hs hm (fun p_row σ_ G1_5 G5 O_ H5 e5 w_ e15 hs hm => ?_) (fun G5 H5 J5 e5 hs hm => ?_) (fun G5 H5 J5 e5 hs hm => ?_)
      · obtain ⟨l_p_row, vs_p_row, d_7, d_8, rfl, rfl, h_p_row⟩ := w_
        have h_p_table := ((rP (rsC zI (rsC zI (rs1 (rT (rT (rP (rsC zI (rs1 zI)))))))))).mono e5 h_p_table
        have h_p_rows := RLs.mono e5 h_p_rows
        have h_p_parts := ((rK zI)).mono e5 h_p_parts
        have h_p_row := RLs.mono e15 h_p_row
        have b2 := Same.trans b2 e5
        refine (show (_ : TS) _ ([some v_p_table, some (.int p_drivers), some (.int p_cell), some (.ref l_p_rows), some (.int p_state), some (.ref l_p_row), some v_p_parts, d_7, d_8] : L2.St) _ from ?_)
        unfold m_law_chained_j6 at hm
        try dsimp only at hm
        have ng7 := (hs.at 0 rfl).2.1
        have eg7 := same_new (o := HO.lst vs_p_row) ng7
        have hs := hs.give 0 rfl
        have h_p_row : (rK (rP (rsC zI (rs1 zI)))).r K _ (.ref l_p_row) p_row := ⟨l_p_row, vs_p_row, rfl, upd_same, RLs.mono eg7 h_p_row⟩
        have h_p_table := ((rP (rsC zI (rsC zI (rs1 (rT (rT (rP (rsC zI (rs1 zI)))))))))).mono eg7 h_p_table
        have h_p_rows := RLs.mono eg7 h_p_rows
        have h_p_parts := ((rK zI)).mono eg7 h_p_parts
        have b2 := Same.trans b2 eg7
        refine w_app (K := K) (i := 3) 0 (xs := p_rows) rfl rfl h_p_rows (e_tupleL (e_KL (e_var (K := K) (i := 5) (R := (rK (rP (rsC zI (rs1 zI))))) (x := p_row) rfl h_p_row))) hs hm (fun y8 w8 G8 H8 e8 hs h8 hm => ?_)
        have h_p_table := ((rP (rsC zI (rsC zI (rs1 (rT (rT (rP (rsC zI (rs1 zI)))))))))).mono e8 h_p_table
        have h_p_row := ((rK (rP (rsC zI (rs1 zI))))).mono e8 h_p_row
        have h_p_parts := ((rK zI)).mono e8 h_p_parts
        have b2 := Same.trans b2 e8
        have h_p_rows := h8
        generalize p_rows ++ [y8] = p_rows at hm h_p_rows
        generalize vs_p_rows ++ [w8] = vs_p_rows at hs h_p_rows
        exact E2.nx p_rows _ _ _ _ _ b2 ⟨l_p_rows, vs_p_rows, some (.int p_state), some (.ref l_p_row), some v_p_parts, d_7, d_8, rfl, rfl, h_p_rows⟩ (Same.refl _) hs hm.out
      · have h_p_table := ((rP (rsC zI (rsC zI (rs1 (rT (rT (rP (rsC zI (rs1 zI)))))))))).mono e5 h_p_table
        have h_p_rows := RLs.mono e5 h_p_rows
        have h_p_row := RLs.mono e5 h_p_row
        have h_p_parts := ((rK zI)).mono e5 h_p_parts
        have b2 := Same.trans b2 e5
        have b5 := Same.refl G5
        refine w_forM (K := K) (fun (p_row : (List (Int × Int))) (σ : L2.St) (G : Hp) (O : Own) => ∃ (l_p_row : Addr) (vs_p_row : List V) (d_7 : Option V) (d_8 : Option V), σ = [some v_p_table, some (.int p_drivers), some (.int p_cell), some (.ref l_p_rows), some (.int p_state), some (.ref l_p_row), some v_p_parts, d_7, d_8] ∧ O = [(l_p_row, .lst vs_p_row), (l_p_rows, .lst vs_p_rows)] ∧ RLs (rP (rsC zI (rs1 zI))) K G vs_p_row p_row) (i_rng1 (e_shl e_int (e_var (K := K) (i := 1) (R := zI) (x := p_drivers) rfl rfl))) (fun _ _ _ _ _ _ h => nomatch h) (tg_name (i := 7) (R := zI)) hs hm ⟨l_p_row, vs_p_row, d_7, d_8, rfl, rfl, h_p_row⟩ (fun p_move p_row σ_ G1_9 G9 O_ H9 vv9 D9 Qb9 e9 w_ e19 hs hv9 E9 hm => ?_) (fun p_row σ_ G1_9 G9 O_ H9 e9 w_ e19 hs hm => ?_)
        · obtain ⟨l_p_row, vs_p_row, d_7, d_8, rfl, rfl, h_p_row⟩ := w_
          have h_p_table := ((rP (rsC zI (rsC zI (rs1 (rT (rT (rP (rsC zI (rs1 zI)))))))))).mono e9 h_p_table
          have h_p_rows := RLs.mono e9 h_p_rows
          have h_p_parts := ((rK zI)).mono e9 h_p_parts
          have h_p_row := RLs.mono e19 h_p_row
          obtain ⟨v_p_move, rfl, h_p_move⟩ := hv9
          cases (show v_p_move = V.int p_move from h_p_move)
          have b9 := Same.refl G9
          refine (show (_ : TS) _ ([some v_p_table, some (.int p_drivers), some (.int p_cell), some (.ref l_p_rows), some (.int p_state), some (.ref l_p_row), some v_p_parts, some (.int p_move), d_8] : L2.St) _ from ?_)
          unfold m_law_chained_b12 at hm
          try dsimp only at hm
          refine w_asg (K := K) (tg_name (i := 8) (R := zI)) (e_mod (e_intI (e_ixL (e_KL (e_var (K := K) (i := 6) (R := (rK zI)) (x := p_parts) rfl h_p_parts)) (e_mul e_int (e_var (K := K) (i := 7) (R := zI) (x := p_move) rfl rfl)))) (e_shl e_int (e_sub (e_proj (k := 0) pj0 (e_var (K := K) (i := 0) (R := (rP (rsC zI (rsC zI (rs1 (rT (rT (rP (rsC zI (rs1 zI)))))))))) (x := p_table) rfl h_p_table)) (e_var (K := K) (i := 1) (R := zI) (x := p_drivers) rfl rfl)))) hs hm (fun p_other vv10 G10 H10 e10 hs hv10 hm => ?_)
          obtain ⟨v_p_other, rfl, h_p_other⟩ := hv10
          cases (show v_p_other = V.int p_other from h_p_other)
          have h_p_table := ((rP (rsC zI (rsC zI (rs1 (rT (rT (rP (rsC zI (rs1 zI)))))))))).mono e10 h_p_table
          have h_p_rows := RLs.mono e10 h_p_rows
          have h_p_row := RLs.mono e10 h_p_row
          have h_p_parts := ((rK zI)).mono e10 h_p_parts
          have b9 := Same.trans b9 e10
          refine (show (_ : TS) _ ([some v_p_table, some (.int p_drivers), some (.int p_cell), some (.ref l_p_rows), some (.int p_state), some (.ref l_p_row), some v_p_parts, some (.int p_move), some (.int p_other)] : L2.St) _ from ?_)
          refine w_set (K := K) (i := 5) 0 (xs := p_row) rfl rfl h_p_row (e_tup (lnC ln1) (a_cons (e_add (e_var (K := K) (i := 4) (R := zI) (x := p_state) rfl rfl) e_int) (a_one (e_mod (e_intI (e_ixL (e_KL (e_var (K := K) (i := 6) (R := (rK zI)) (x := p_parts) rfl h_p_parts)) (e_add (e_mul e_int (e_var (K := K) (i := 7) (R := zI) (x := p_move) rfl rfl)) e_int))) (e_shl e_int (e_proj (k := 1) (pjS pj0) (e_var (K := K) (i := 0) (R := (rP (rsC zI (rsC zI (rs1 (rT (rT (rP (rsC zI (rs1 zI)))))))))) (x := p_table) rfl h_p_table)))))) (by decide)) (e_add (e_var (K := K) (i := 7) (R := zI) (x := p_move) rfl rfl) (e_mul (e_var (K := K) (i := 8) (R := zI) (x := p_other) rfl rfl) (e_shl e_int (e_var (K := K) (i := 1) (R := zI) (x := p_drivers) rfl rfl)))) hs hm (fun p_row vs_p_row G11 H11 e11 hs h11 hm => ?_)
          have h_p_table := ((rP (rsC zI (rsC zI (rs1 (rT (rT (rP (rsC zI (rs1 zI)))))))))).mono e11 h_p_table
          have h_p_rows := RLs.mono e11 h_p_rows
          have h_p_parts := ((rK zI)).mono e11 h_p_parts
          have b9 := Same.trans b9 e11
          have h_p_row := h11
          exact E9.nx p_row _ _ _ _ _ b9 ⟨l_p_row, vs_p_row, some (.int p_move), some (.int p_other), rfl, rfl, h_p_row⟩ (Same.refl _) hs hm.out
        · obtain ⟨l_p_row, vs_p_row, d_7, d_8, rfl, rfl, h_p_row⟩ := w_
          have h_p_table := ((rP (rsC zI (rsC zI (rs1 (rT (rT (rP (rsC zI (rs1 zI)))))))))).mono e9 h_p_table
          have h_p_rows := RLs.mono e9 h_p_rows
          have h_p_parts := ((rK zI)).mono e9 h_p_parts
          have h_p_row := RLs.mono e19 h_p_row
          have b2 := Same.trans b2 e9
          have b5 := Same.trans b5 e9
          refine (show (_ : TS) _ ([some v_p_table, some (.int p_drivers), some (.int p_cell), some (.ref l_p_rows), some (.int p_state), some (.ref l_p_row), some v_p_parts, d_7, d_8] : L2.St) _ from ?_)
          try dsimp only at hm
          exact J5.nx p_row _ _ _ _ _ b5 ⟨l_p_row, vs_p_row, d_7, d_8, rfl, rfl, h_p_row⟩ (Same.refl _) hs hm
      · have h_p_table := ((rP (rsC zI (rsC zI (rs1 (rT (rT (rP (rsC zI (rs1 zI)))))))))).mono e5 h_p_table
        have h_p_rows := RLs.mono e5 h_p_rows
        have h_p_row := RLs.mono e5 h_p_row
        have h_p_parts := ((rK zI)).mono e5 h_p_parts
        have b2 := Same.trans b2 e5
        have b5 := Same.refl G5
        exact J5.nx p_row _ _ _ _ _ b5 ⟨l_p_row, vs_p_row, d_7, d_8, rfl, rfl, h_p_row⟩ (Same.refl _) hs hm
    · obtain ⟨l_p_rows, vs_p_rows, d_4, d_5, d_6, d_7, d_8, rfl, rfl, h_p_rows⟩ := w_
      have h_p_table := ((rP (rsC zI (rsC zI (rs1 (rT (rT (rP (rsC zI (rs1 zI)))))))))).mono e2 h_p_table
      have h_p_rows := RLs.mono e12 h_p_rows
      refine (show (_ : TS) _ ([some v_p_table, some (.int p_drivers), some (.int p_cell), some (.ref l_p_rows), d_4, d_5, d_6, d_7, d_8] : L2.St) _ from ?_)
      try dsimp only at hm
      have ng13 := (hs.at 0 rfl).2.1
      have eg13 := same_new (o := HO.lst vs_p_rows) ng13
      have hs := hs.give 0 rfl
      have h_p_rows : (rK (rT (rP (rsC zI (rs1 zI))))).r K _ (.ref l_p_rows) p_rows := ⟨l_p_rows, vs_p_rows, rfl, upd_same, RLs.mono eg13 h_p_rows⟩
      have h_p_table := ((rP (rsC zI (rsC zI (rs1 (rT (rT (rP (rsC zI (rs1 zI)))))))))).mono eg13 h_p_table
      exact w_ret0 (K := K) (e_tup (lnC (lnC ln1)) (a_cons (e_proj (k := 0) pj0 (e_var (K := K) (i := 0) (R := (rP (rsC zI (rsC zI (rs1 (rT (rT (rP (rsC zI (rs1 zI)))))))))) (x := p_table) rfl h_p_table)) (a_cons (e_proj (k := 1) (pjS pj0) (e_var (K := K) (i := 0) (R := (rP (rsC zI (rsC zI (rs1 (rT (rT (rP (rsC zI (rs1 zI)))))))))) (x := p_table) rfl h_p_table)) (a_one (e_tupleL (e_KL (e_var (K := K) (i := 3) (R := (rK (rT (rP (rsC zI (rs1 zI)))))) (x := p_rows) rfl h_p_rows)))))) (by decide)) hs hm fun r v G2 H2 hs2 hr2 hq => hq v G2 H2 hs2.fin hr2

theorem ok_law_outcomes {P : Program} {w : World} {K : PySem.W.Frag} {mg : Str → Option Value} {base : Heap} {cl : Nat → Addr} {fa : Addr} {fd : FuncData} (F : Fun K "_law_outcomes" "_law_outcomes" s_law_outcomes fa fd) (T : Txt K mg cl)  :
    FnOk P w K mg base (L2.CX P w) 1 fa fd ["table", "drivers", "state", "move"] (spP K cl (rsC (rP (rsC zI (rsC zI (rs1 (rT (rT (rP (rsC zI (rs1 zI))))))))) (rsC zI (rsC zI (rs1 zI)))) (rK (rP (rsC zI (rs1 zI)))) (fun a => m_law_outcomes (a.1) (a.2.1) (a.2.2.1) (a.2.2.2))) := by
  refine F.okX sc_law_outcomes (fun vs H Q E h => ?_) (fun cdv A outer s H vs Q E hr h => ?_)
  · obtain ⟨G, a, _, hS, _⟩ := h
    exact (lnC (lnC (lnC ln1))) _ _ _ _ hS
  · obtain ⟨G, ⟨p_table, p_drivers, p_state, p_move⟩, hg, hS, hm⟩ := h
    obtain ⟨v_p_table, _, rfl, h_p_table, v_p_drivers, _, rfl, h_p_drivers, v_p_state, _, rfl, h_p_state, v_p_move, rfl, h_p_move⟩ := hS
    cases (show v_p_drivers = V.int p_drivers from h_p_drivers)
    cases (show v_p_state = V.int p_state from h_p_state)
    cases (show v_p_move = V.int p_move from h_p_move)
    refine ⟨_, (pss_cons (ps_ret (pe_lc (own := [("other", 4)]) rfl sc_law_outcomes.nd (pi_range1 rfl T.n_range (pa_cons (pe_op op_shl pe_int (pe_op op_sub (pe_ix (r := rIxT K) ix_tup (pv 0) pe_int (fun _ _ => rfl)) (pv 1))) pa_nil)) (blkOk_by (own := [("other", 4)]) (N := N_law_outcomes) (sc := defScope s_law_outcomes) (by decide +kernel)) (fun _ _ _ _ _ => (pg_name (i := 4) sc_law_outcomes.nd rfl (by first | exact Or.inl rfl | exact Or.inr rfl))) (fun _ _ _ _ _ => pts_nil) (fun _ _ _ _ _ => (pe_ix (r := rIxT K) ix_tup (pe_ix (r := rIxT K) ix_tup (pe_ix (r := rIxT K) ix_tup (pv 0) pe_int (fun _ _ => rfl)) (pv 2) (fun _ _ => rfl)) (pe_op op_add (pv 3) (pe_op op_mul (pv 4) (pe_op op_shl pe_int (pv 1)))) (fun _ _ => rfl)))))
     pss_nil), ?_⟩
    have hs : Hs ⟨H, G, E, cl⟩ G [] H := Hs.start hg
    have hm := Wp.ofSp (G0 := G) hm
    dsimp only at hm
    unfold m_law_outcomes at hm
    refine (show (_ : TS) _ ([some v_p_table, some (.int p_drivers), some (.int p_state), some (.int p_move), none] : L2.St) _ from ?_)
    exact w_ret0 (K := K) (EvN.evK (n_lc (S := (rP (rsC zI (rs1 zI)))) (i_rng1 (e_shl e_int (e_sub (e_proj (k := 0) pj0 (e_var (K := K) (i := 0) (R := (rP (rsC zI (rsC zI (rs1 (rT (rT (rP (rsC zI (rs1 zI)))))))))) (x := p_table) rfl h_p_table)) (e_var (K := K) (i := 1) (R := zI) (x := p_drivers) rfl rfl)))) (fun _ h => nomatch h) (tg_name (i := 4) (R := zI)) (by decide) (fun x1 vs1 G1 e1 hv1 => by
     obtain ⟨v1_p_other, rfl, h1_p_other⟩ := hv1
     exact ⟨t_yes, (e_ixT (e_ixT (e_proj (k := 2) (pjS (pjS pj1)) (e_var (K := K) (i := 0) (R := (rP (rsC zI (rsC zI (rs1 (rT (rT (rP (rsC zI (rs1 zI)))))))))) (x := p_table) rfl (((rP (rsC zI (rsC zI (rs1 (rT (rT (rP (rsC zI (rs1 zI)))))))))).mono e1 h_p_table))) (e_var (K := K) (i := 2) (R := zI) (x := p_state) rfl rfl)) (e_add (e_var (K := K) (i := 3) (R := zI) (x := p_move) rfl rfl) (e_mul (e_var (K := K) (i := 4) (R := zI) (x := x1) rfl h1_p_other) (e_shl e_int (e_var (K := K) (i := 1) (R := zI) (x := p_drivers) rfl rfl)))))⟩))) hs hm fun r v G2 H2 hs2 hr2 hq => hq v G2 H2 hs2.fin hr2

theorem ok_law_rounds {P : Program} {w : World} {K : PySem.W.Frag} {mg : Str → Option Value} {base : Heap} {cl : Nat → Addr} {fa : Addr} {fd : FuncData} (F : Fun K "_law_rounds" "_law_rounds" s_law_rounds fa fd) (T : Txt K mg cl) (C_law_outcomes : Cal P w K mg base "_law_outcomes" 1 ["table", "drivers", "state", "move"] (spP K cl (rsC (rP (rsC zI (rsC zI (rs1 (rT (rT (rP (rsC zI (rs1 zI))))))))) (rsC zI (rsC zI (rs1 zI)))) (rK (rP (rsC zI (rs1 zI)))) (fun a => m_law_outcomes (a.1) (a.2.1) (a.2.2.1) (a.2.2.2)))) :
    FnOk P w K mg base (L2.CX P w) 2 fa fd ["table", "drivers", "bad"] (spP K cl (rsC (rP (rsC zI (rsC zI (rs1 (rT (rT (rP (rsC zI (rs1 zI))))))))) (rsC zI (rs1 (rK zI)))) (rK (rO zI)) (fun a => m_law_rounds (a.1) (a.2.1) (a.2.2))) := by
  refine F.okX sc_law_rounds (fun vs H Q E h => ?_) (fun cdv A outer s H vs Q E hr h => ?_)
  · obtain ⟨G, a, _, hS, _⟩ := h
    exact (lnC (lnC ln1)) _ _ _ _ hS
  · obtain ⟨G, ⟨p_table, p_drivers, p_bad⟩, hg, hS, hm⟩ := h
    obtain ⟨v_p_table, _, rfl, h_p_table, v_p_drivers, _, rfl, h_p_drivers, v_p_bad, rfl, h_p_bad⟩ := hS
    cases (show v_p_drivers = V.int p_drivers from h_p_drivers)
    have tk : Takes (cxOf (L2.CX P w) P w K mg base N_law_rounds "_law_rounds" (defScope s_law_rounds) fa cdv A outer s H E) (fun cls d _ H => E cls d H) := takes_of rfl rfl rfl rfl
    refine ⟨_, (pss_cons (ps_setLc (i := 3) (own := [("row", 11)]) rfl sc_law_rounds.nd rfl rfl (sw_true rfl rfl rfl (by decide +kernel)) (pi_tup (pe_ix (r := rIxT K) ix_tup (pv 0) pe_int (fun _ _ => rfl))) (blkOk_by (own := [("row", 11)]) (N := N_law_rounds) (sc := defScope s_law_rounds) (by decide +kernel)) (fun _ _ _ _ _ => (pg_name (i := 11) sc_law_rounds.nd rfl (by first | exact Or.inl rfl | exact Or.inr rfl))) (fun _ _ _ _ _ => pts_nil) (fun _ _ _ _ _ => pe_non))
     (pss_cons (ps_set (i := 4) sc_law_rounds.nd rfl (by first | exact Or.inl rfl | exact Or.inr rfl) (pe_lc (own := [("row", 11)]) rfl sc_law_rounds.nd (pi_tup (pe_ix (r := rIxT K) ix_tup (pv 0) pe_int (fun _ _ => rfl))) (blkOk_by (own := [("row", 11)]) (N := N_law_rounds) (sc := defScope s_law_rounds) (by decide +kernel)) (fun _ _ _ _ _ => (pg_name (i := 11) sc_law_rounds.nd rfl (by first | exact Or.inl rfl | exact Or.inr rfl))) (fun _ _ _ _ _ => pts_nil) (fun _ _ _ _ _ => pe_bl)))
     (pss_cons (ps_for (passes_of rfl) rfl (pi_range2 rfl T.n_range (pa_cons pe_int (pa_cons (pe_op op_add pe_int (pe_callB (r := rLen K) call_len (by rfl) T.n_len b_len (pa_cons (pv 3) pa_nil))) pa_nil))) (pg_name (i := 5) sc_law_rounds.nd rfl (by first | exact Or.inl rfl | exact Or.inr rfl)) (pss_cons (ps_set (i := 6) sc_law_rounds.nd rfl (by first | exact Or.inl rfl | exact Or.inr rfl) (pe_lst pa_nil))
     (pss_cons (ps_for (passes_of rfl) rfl (pi_range1 rfl T.n_range (pa_cons (pe_callB (r := rLen K) call_len (by rfl) T.n_len b_len (pa_cons (pv 3) pa_nil)) pa_nil)) (pg_name (i := 7) sc_law_rounds.nd rfl (by first | exact Or.inl rfl | exact Or.inr rfl)) (pss_cons (ps_set (i := 8) sc_law_rounds.nd rfl (by first | exact Or.inl rfl | exact Or.inr rfl) pe_int)
     (pss_cons (ps_for (passes_of rfl) rfl (pi_range1 rfl T.n_range (pa_cons (pe_op op_shl pe_int (pv 1)) pa_nil)) (pg_name (i := 9) sc_law_rounds.nd rfl (by first | exact Or.inl rfl | exact Or.inr rfl)) (pss_cons (ps_set (i := 10) sc_law_rounds.nd rfl (by first | exact Or.inl rfl | exact Or.inr rfl) (pe_call (E := E) C_law_outcomes.ok (hr.mono (by decide)) rfl C_law_outcomes.mgx C_law_outcomes.kp C_law_outcomes.bd .nil (passes_call tk (fun _ _ _ _ h => h)) (pa_cons (pv 0) (pa_cons (pv 1) (pa_cons (pv 7) (pa_cons (pv 9) pa_nil))))))
     (pss_cons (ps_if (pt_cmpR op_eq (pe_callB (r := rLen K) call_len (by rfl) T.n_len b_len (pa_cons (pe_lc (own := [("pair", 12)]) rfl sc_law_rounds.nd (pi_list (pv 10)) (blkOk_by (own := [("pair", 12)]) (N := N_law_rounds) (sc := defScope s_law_rounds) (by decide +kernel)) (fun _ _ _ _ _ => (pg_name (i := 12) sc_law_rounds.nd rfl (by first | exact Or.inl rfl | exact Or.inr rfl))) (fun _ _ _ _ _ => (pts_one (PW.pt (pw_or (pt_cmpR (r := rIn K false) op_in_seq (pe_ix (r := rIxT K) ix_tup (pv 12) pe_int (fun _ _ => rfl)) (pv 2) (by rfl)) (pw_or1 (pt_val (pe_ix (r := rIxL K) ix_list (pv 4) (pe_ix (r := rIxT K) ix_tup (pv 12) pe_int (fun _ _ => rfl)) (fun _ _ => rfl)))))))) (fun _ _ _ _ _ => (pv 12))) pa_nil)) pe_int (nomark _)) (pss_cons (ps_set (i := 8) sc_law_rounds.nd rfl (by first | exact Or.inl rfl | exact Or.inr rfl) (pe_op op_add (pv 8) pe_int))
     pss_nil) pss_nil)
     pss_nil)))
     (pss_cons (ps_expr (pe_bm PySem.F.plainAttrs_list PySem.F.slot_list_append PySem.F.type_list_append mt_append (pv 6) (pa_cons (pe_cmpR op_eq (pv 8) pe_int (nomark _)) pa_nil)))
     (pss_cons (ps_if (PW.pt (pw_and (pt_cmpR op_eq (pv 8) pe_int (nomark _)) (pw_and1 (pt_cmpR op_isN (pe_ix (r := rIxL K) ix_list (pv 3) (pv 7) (fun _ _ => rfl)) pe_non (nomark _))))) (pss_cons (ps_asg (pv 5) (pg_sub (pv 3) (pv 7) set_list))
     pss_nil) pss_nil)
     pss_nil)))))
     (pss_cons (ps_set (i := 4) sc_law_rounds.nd rfl (by first | exact Or.inl rfl | exact Or.inr rfl) (pv 6))
     pss_nil))))
     (pss_cons (ps_ret (pv 3))
     pss_nil)))), ?_⟩
    have hs : Hs ⟨H, G, E, cl⟩ G [] H := Hs.start hg
    have hm := Wp.ofSp (G0 := G) hm
    dsimp only at hm
    unfold m_law_rounds at hm
    refine (show (_ : TS) _ ([some v_p_table, some (.int p_drivers), some v_p_bad, none, none, none, none, none, none, none, none, none, none] : L2.St) _ from ?_)
    refine w_asgN (K := K) (R := (rO zI)) (i := 3) (n_lc (S := (rO zI)) (i_tup (e_proj (k := 2) (pjS (pjS pj1)) (e_var (K := K) (i := 0) (R := (rP (rsC zI (rsC zI (rs1 (rT (rT (rP (rsC zI (rs1 zI)))))))))) (x := p_table) rfl h_p_table))) (fun _ h => nomatch h) (tg_name (i := 11) (R := (rT (rP (rsC zI (rs1 zI)))))) (by decide) (fun x1 vs1 G1 e1 hv1 => by
     obtain ⟨v1_p_row, rfl, h1_p_row⟩ := hv1
     exact ⟨t_yes, (e_nonO (R := zI))⟩)) hs hm (fun p_rounds l_p_rounds vs_p_rounds G2 H2 e2 hs h2 hm => ?_)
    have h_p_table := ((rP (rsC zI (rsC zI (rs1 (rT (rT (rP (rsC zI (rs1 zI)))))))))).mono e2 h_p_table
    have h_p_bad := ((rK zI)).mono e2 h_p_bad
    have h_p_rounds := h2
    refine (show (_ : TS) _ ([some v_p_table, some (.int p_drivers), some v_p_bad, some (.ref l_p_rounds), none, none, none, none, none, none, none, none, none] : L2.St) _ from ?_)
    refine w_asg (K := K) (tg_name (i := 4) (R := (rK rB))) (EvN.evK (n_lc (S := rB) (i_tup (e_proj (k := 2) (pjS (pjS pj1)) (e_var (K := K) (i := 0) (R := (rP (rsC zI (rsC zI (rs1 (rT (rT (rP (rsC zI (rs1 zI)))))))))) (x := p_table) rfl h_p_table))) (fun _ h => nomatch h) (tg_name (i := 11) (R := (rT (rP (rsC zI (rs1 zI)))))) (by decide) (fun x3 vs3 G3 e3 hv3 => by
     obtain ⟨v3_p_row, rfl, h3_p_row⟩ := hv3
     exact ⟨t_yes, e_bl⟩))) hs hm (fun p_forced vv4 G4 H4 e4 hs hv4 hm => ?_)
    obtain ⟨v_p_forced, rfl, h_p_forced⟩ := hv4
    have h_p_table := ((rP (rsC zI (rsC zI (rs1 (rT (rT (rP (rsC zI (rs1 zI)))))))))).mono e4 h_p_table
    have h_p_bad := ((rK zI)).mono e4 h_p_bad
    have h_p_rounds := RLs.mono e4 h_p_rounds
    refine (show (_ : TS) _ ([some v_p_table, some (.int p_drivers), some v_p_bad, some (.ref l_p_rounds), some v_p_forced, none, none, none, none, none, none, none, none] : L2.St) _ from ?_)
    refine w_forM (K := K) (fun (s : (List (Option Int)) × (List Bool)) (σ : L2.St) (G : Hp) (O : Own) => match s with | (p_rounds, p_forced) => ∃ (l_p_rounds : Addr) (vs_p_rounds : List V) (v_p_forced : V) (d_5 : Option V) (d_6 : Option V) (d_7 : Option V) (d_8 : Option V) (d_9 : Option V) (d_10 : Option V), σ = [some v_p_table, some (.int p_drivers), some v_p_bad, some (.ref l_p_rounds), some v_p_forced, d_5, d_6, d_7, d_8, d_9, d_10, none, none] ∧ O = [(l_p_rounds, .lst vs_p_rounds)] ∧ RLs (rO zI) K G vs_p_rounds p_rounds ∧ ((rK rB)).r K G v_p_forced p_forced) (i_rng2 e_int (e_add e_int (e_lenO (i := 3) (l := l_p_rounds) rfl (List.mem_of_getElem? (i := 0) rfl) h_p_rounds))) (fun _ _ _ _ _ _ h => nomatch h) (tg_name (i := 5) (R := zI)) hs hm ⟨l_p_rounds, vs_p_rounds, v_p_forced, none, none, none, none, none, none, rfl, rfl, h_p_rounds, h_p_forced⟩ (fun p_turn s_ σ_ G1_5 G5 O_ H5 vv5 D5 Qb5 e5 w_ e15 hs hv5 E5 hm => ?_) (fun s_ σ_ G1_5 G5 O_ H5 e5 w_ e15 hs hm => ?_)
    · obtain ⟨p_rounds, p_forced⟩ := s_
      obtain ⟨l_p_rounds, vs_p_rounds, v_p_forced, d_5, d_6, d_7, d_8, d_9, d_10, rfl, rfl, h_p_rounds, h_p_forced⟩ := w_
      have h_p_table := ((rP (rsC zI (rsC zI (rs1 (rT (rT (rP (rsC zI (rs1 zI)))))))))).mono e5 h_p_table
      have h_p_bad := ((rK zI)).mono e5 h_p_bad
      have h_p_rounds := RLs.mono e15 h_p_rounds
      have h_p_forced := ((rK rB)).mono e15 h_p_forced
      obtain ⟨v_p_turn, rfl, h_p_turn⟩ := hv5
      cases (show v_p_turn = V.int p_turn from h_p_turn)
      have b5 := Same.refl G5
      refine (show (_ : TS) _ ([some v_p_table, some (.int p_drivers), some v_p_bad, some (.ref l_p_rounds), some v_p_forced, some (.int p_turn), d_6, d_7, d_8, d_9, d_10, none, none] : L2.St) _ from ?_)
      unfold m_law_rounds_b23 at hm
      try dsimp only at hm
      refine w_asgN (K := K) (R := rB) (i := 6) (e_lst l_nil (by decide)) hs hm (fun p_following l_p_following vs_p_following G6 H6 e6 hs h6 hm => ?_)
      have h_p_table := ((rP (rsC zI (rsC zI (rs1 (rT (rT (rP (rsC zI (rs1 zI)))))))))).mono e6 h_p_table
      have h_p_bad := ((rK zI)).mono e6 h_p_bad
      have h_p_rounds := RLs.mono e6 h_p_rounds
      have h_p_forced := ((rK rB)).mono e6 h_p_forced
      have b5 := Same.trans b5 e6
      have h_p_following := h6
      refine (show (_ : TS) _ ([some v_p_table, some (.int p_drivers), some v_p_bad, some (.ref l_p_rounds), some v_p_forced, some (.int p_turn), some (.ref l_p_following), d_7, d_8, d_9, d_10, none, none] : L2.St) _ from ?_)
      refine w_forM (K := K) (fun (s : (List Bool) × (List (Option Int))) (σ : L2.St) (G : Hp) (O : Own) => match s with | (p_following, p_rounds) => ∃ (l_p_following : Addr) (vs_p_following : List V) (l_p_rounds : Addr) (vs_p_rounds : List V) (d_7 : Option V) (d_8 : Option V) (d_9 : Option V) (d_10 : Option V), σ = [some v_p_table, some (.int p_drivers), some v_p_bad, some (.ref l_p_rounds), some v_p_forced, some (.int p_turn), some (.ref l_p_following), d_7, d_8, d_9, d_10, none, none] ∧ O = [(l_p_following, .lst vs_p_following), (l_p_rounds, .lst vs_p_rounds)] ∧ RLs rB K G vs_p_following p_following ∧ RLs (rO zI) K G vs_p_rounds p_rounds) (i_rng1 (e_lenO (i := 3) (l := l_p_rounds) rfl (List.mem_of_getElem? (i := 1) rfl) h_p_rounds)) (fun _ _ _ _ _ _ h => nomatch h) (tg_name (i := 7) (R := zI)) hs hm ⟨l_p_following, vs_p_following, l_p_rounds, vs_p_rounds, d_7, d_8, d_9, d_10, rfl, rfl, h_p_following, h_p_rounds⟩ (fun p_state s_ σ_ G1_7 G7 O_ H7 vv7 D7 Qb7 e7 w_ e17 hs hv7 E7 hm => ?_) (fun s_ σ_ G1_7 G7 O_ H7 e7 w_ e17 hs hm => ?_)
      · obtain ⟨p_following, p_rounds⟩ := s_
        obtain ⟨l_p_following, vs_p_following, l_p_rounds, vs_p_rounds, d_7, d_8, d_9, d_10, rfl, rfl, h_p_following, h_p_rounds⟩ := w_
        have h_p_table := ((rP (rsC zI (rsC zI (rs1 (rT (rT (rP (rsC zI (rs1 zI)))))))))).mono e7 h_p_table
        have h_p_bad := ((rK zI)).mono e7 h_p_bad
        have h_p_forced := ((rK rB)).mono e7 h_p_forced
        have h_p_rounds := RLs.mono e17 h_p_rounds
        have h_p_following := RLs.mono e17 h_p_following
        obtain ⟨v_p_state, rfl, h_p_state⟩ := hv7
        cases (show v_p_state = V.int p_state from h_p_state)
        have b7 := Same.refl G7
        refine (show (_ : TS) _ ([some v_p_table, some (.int p_drivers), some v_p_bad, some (.ref l_p_rounds), some v_p_forced, some (.int p_turn), some (.ref l_p_following), some (.int p_state), d_8, d_9, d_10, none, none] : L2.St) _ from ?_)
        unfold m_law_rounds_b21 at hm
        try dsimp only at hm
        refine w_asg (K := K) (tg_name (i := 8) (R := zI)) e_int hs hm (fun p_good vv8 G8 H8 e8 hs hv8 hm => ?_)
        obtain ⟨v_p_good, rfl, h_p_good⟩ := hv8
        cases (show v_p_good = V.int p_good from h_p_good)
        have h_p_table := ((rP (rsC zI (rsC zI (rs1 (rT (rT (rP (rsC zI (rs1 zI)))))))))).mono e8 h_p_table
        have h_p_bad := ((rK zI)).mono e8 h_p_bad
        have h_p_rounds := RLs.mono e8 h_p_rounds
        have h_p_forced := ((rK rB)).mono e8 h_p_forced
        have h_p_following := RLs.mono e8 h_p_following
        have b7 := Same.trans b7 e8
        refine (show (_ : TS) _ ([some v_p_table, some (.int p_drivers), some v_p_bad, some (.ref l_p_rounds), some v_p_forced, some (.int p_turn), some (.ref l_p_following), some (.int p_state), some (.int p_good), d_9, d_10, none, none] : L2.St) _ from ?_)
        refine w_forM (K := K) (fun (p_good : Int) (σ : L2.St) (G : Hp) (O : Own) => ∃ (d_9 : Option V) (d_10 : Option V), σ = [some v_p_table, some (.int p_drivers), some v_p_bad, some (.ref l_p_rounds), some v_p_forced, some (.int p_turn), some (.ref l_p_following), some (.int p_state), some (.int p_good), d_9, d_10, none, none] ∧ O = [(l_p_following, .lst vs_p_following), (l_p_rounds, .lst vs_p_rounds)]) (i_rng1 (e_shl e_int (e_var (K := K) (i := 1) (R := zI) (x := p_drivers) rfl rfl))) (fun _ _ _ _ _ _ h => nomatch h) (tg_name (i := 9) (R := zI)) hs hm ⟨d_9, d_10, rfl, rfl⟩ (fun p_move p_good σ_ G1_9 G9 O_ H9 vv9 D9 Qb9 e9 w_ e19 hs hv9 E9 hm => ?_) (fun p_good σ_ G1_9 G9 O_ H9 e9 w_ e19 hs hm => ?_)
        · obtain ⟨d_9, d_10, rfl, rfl⟩ := w_
          have h_p_table := ((rP (rsC zI (rsC zI (rs1 (rT (rT (rP (rsC zI (rs1 zI)))))))))).mono e9 h_p_table
          have h_p_bad := ((rK zI)).mono e9 h_p_bad
          have h_p_rounds := RLs.mono e9 h_p_rounds
          have h_p_forced := ((rK rB)).mono e9 h_p_forced
          have h_p_following := RLs.mono e9 h_p_following
          obtain ⟨v_p_move, rfl, h_p_move⟩ := hv9
          cases (show v_p_move = V.int p_move from h_p_move)
          have b9 := Same.refl G9
          refine (show (_ : TS) _ ([some v_p_table, some (.int p_drivers), some v_p_bad, some (.ref l_p_rounds), some v_p_forced, some (.int p_turn), some (.ref l_p_following), some (.int p_state), some (.int p_good), some (.int p_move), d_10, none, none] : L2.St) _ from ?_)
          unfold m_law_rounds_b18 at hm
          try dsimp only at hm
          refine w_asg (K := K) (tg_name (i := 10) (R := (rK (rP (rsC zI (rs1 zI)))))) (e_call (fm := ⟨H, G, E, cl⟩) (a_cons (e_var (K := K) (i := 0) (R := (rP (rsC zI (rsC zI (rs1 (rT (rT (rP (rsC zI (rs1 zI)))))))))) (x := p_table) rfl h_p_table) (a_cons (e_var (K := K) (i := 1) (R := zI) (x := p_drivers) rfl rfl) (a_cons (e_var (K := K) (i := 7) (R := zI) (x := p_state) rfl rfl) (a_one (e_var (K := K) (i := 9) (R := zI) (x := p_move) rfl rfl)))))) hs hm (fun p_pairs vv10 G10 H10 e10 hs hv10 hm => ?_)
          obtain ⟨v_p_pairs, rfl, h_p_pairs⟩ := hv10
          have h_p_table := ((rP (rsC zI (rsC zI (rs1 (rT (rT (rP (rsC zI (rs1 zI)))))))))).mono e10 h_p_table
          have h_p_bad := ((rK zI)).mono e10 h_p_bad
          have h_p_rounds := RLs.mono e10 h_p_rounds
          have h_p_forced := ((rK rB)).mono e10 h_p_forced
          have h_p_following := RLs.mono e10 h_p_following
          have b9 := Same.trans b9 e10
          refine (show (_ : TS) _ ([some v_p_table, some (.int p_drivers), some v_p_bad, some (.ref l_p_rounds), some v_p_forced, some (.int p_turn), some (.ref l_p_following), some (.int p_state), some (.int p_good), some (.int p_move), some v_p_pairs, none, none] : L2.St) _ from ?_)
          refine w_if (t_test (K := K) (e_eq srI (e_len sq_K (EvN.evK (n_lc (S := (rP (rsC zI (rs1 zI)))) (i_list (e_KL (e_var (K := K) (i := 10) (R := (rK (rP (rsC zI (rs1 zI))))) (x := p_pairs) rfl h_p_pairs))) (fun _ h => nomatch h) (tg_name (i := 12) (R := (rP (rsC zI (rs1 zI))))) (by decide) (fun x12 vs12 G12 e12 hv12 => by
           obtain ⟨v12_p_pair, rfl, h12_p_pair⟩ := hv12
           exact ⟨(t_or (t_test (K := K) (e_in srI sq_K (e_proj (k := 1) (pjS pj1) (e_var (K := K) (i := 12) (R := (rP (rsC zI (rs1 zI)))) (x := x12) rfl h12_p_pair)) (e_var (K := K) (i := 2) (R := (rK zI)) (x := p_bad) rfl (((rK zI)).mono e12 h_p_bad)))) (t_val (K := K) (e_ixL (e_KL (e_var (K := K) (i := 4) (R := (rK rB)) (x := p_forced) rfl (((rK rB)).mono e12 h_p_forced))) (e_proj (k := 0) pj0 (e_var (K := K) (i := 12) (R := (rP (rsC zI (rs1 zI)))) (x := x12) rfl h12_p_pair))))), (e_var (K := K) (i := 12) (R := (rP (rsC zI (rs1 zI)))) (x := x12) rfl h12_p_pair)⟩)))) e_int)) hs hm (fun G13 H13 e13 hs hm => ?_) (fun G13 H13 e13 hs hm => ?_)
          · have h_p_table := ((rP (rsC zI (rsC zI (rs1 (rT (rT (rP (rsC zI (rs1 zI)))))))))).mono e13 h_p_table
            have h_p_bad := ((rK zI)).mono e13 h_p_bad
            have h_p_rounds := RLs.mono e13 h_p_rounds
            have h_p_forced := ((rK rB)).mono e13 h_p_forced
            have h_p_following := RLs.mono e13 h_p_following
            have h_p_pairs := ((rK (rP (rsC zI (rs1 zI))))).mono e13 h_p_pairs
            have b9 := Same.trans b9 e13
            refine w_asg (K := K) (tg_name (i := 8) (R := zI)) (e_add (e_var (K := K) (i := 8) (R := zI) (x := p_good) rfl rfl) e_int) hs hm (fun p_good vv14 G14 H14 e14 hs hv14 hm => ?_)
            obtain ⟨v_p_good, rfl, h_p_good⟩ := hv14
            cases (show v_p_good = V.int p_good from h_p_good)
            have h_p_table := ((rP (rsC zI (rsC zI (rs1 (rT (rT (rP (rsC zI (rs1 zI)))))))))).mono e14 h_p_table
            have h_p_bad := ((rK zI)).mono e14 h_p_bad
            have h_p_rounds := RLs.mono e14 h_p_rounds
            have h_p_forced := ((rK rB)).mono e14 h_p_forced
            have h_p_following := RLs.mono e14 h_p_following
            have h_p_pairs := ((rK (rP (rsC zI (rs1 zI))))).mono e14 h_p_pairs
            have b9 := Same.trans b9 e14
            refine (show (_ : TS) _ ([some v_p_table, some (.int p_drivers), some v_p_bad, some (.ref l_p_rounds), some v_p_forced, some (.int p_turn), some (.ref l_p_following), some (.int p_state), some (.int p_good), some (.int p_move), some v_p_pairs, none, none] : L2.St) _ from ?_)
            refine nx_of ?_
            refine (show (_ : TS) _ ([some v_p_table, some (.int p_drivers), some v_p_bad, some (.ref l_p_rounds), some v_p_forced, some (.int p_turn), some (.ref l_p_following), some (.int p_state), some (.int p_good), some (.int p_move), some v_p_pairs, none, none] : L2.St) _ from ?_)
            exact E9.nx p_good _ _ _ _ _ b9 ⟨some (.int p_move), some v_p_pairs, rfl, rfl⟩ (Same.refl _) hs hm.out
          · have h_p_table := ((rP (rsC zI (rsC zI (rs1 (rT (rT (rP (rsC zI (rs1 zI)))))))))).mono e13 h_p_table
            have h_p_bad := ((rK zI)).mono e13 h_p_bad
            have h_p_rounds := RLs.mono e13 h_p_rounds
            have h_p_forced := ((rK rB)).mono e13 h_p_forced
            have h_p_following := RLs.mono e13 h_p_following
            have h_p_pairs := ((rK (rP (rsC zI (rs1 zI))))).mono e13 h_p_pairs
            have b9 := Same.trans b9 e13
            refine nx_of ?_
            refine (show (_ : TS) _ ([some v_p_table, some (.int p_drivers), some v_p_bad, some (.ref l_p_rounds), some v_p_forced, some (.int p_turn), some (.ref l_p_following), some (.int p_state), some (.int p_good), some (.int p_move), some v_p_pairs, none, none] : L2.St) _ from ?_)
            exact E9.nx p_good _ _ _ _ _ b9 ⟨some (.int p_move), some v_p_pairs, rfl, rfl⟩ (Same.refl _) hs hm.out
        · obtain ⟨d_9, d_10, rfl, rfl⟩ := w_
          have h_p_table := ((rP (rsC zI (rsC zI (rs1 (rT (rT (rP (rsC zI (rs1 zI)))))))))).mono e9 h_p_table
          have h_p_bad := ((rK zI)).mono e9 h_p_bad
          have h_p_rounds := RLs.mono e9 h_p_rounds
          have h_p_forced := ((rK rB)).mono e9 h_p_forced
          have h_p_following := RLs.mono e9 h_p_following
          have b7 := Same.trans b7 e9
          refine (show (_ : TS) _ ([some v_p_table, some (.int p_drivers), some v_p_bad, some (.ref l_p_rounds), some v_p_forced, some (.int p_turn), some (.ref l_p_following), some (.int p_state), some (.int p_good), d_9, d_10, none, none] : L2.St) _ from ?_)
          try dsimp only at hm
          refine w_app (K := K) (i := 6) 0 (xs := p_following) rfl rfl h_p_following (e_eq srI (e_var (K := K) (i := 8) (R := zI) (x := p_good) rfl rfl) e_int) hs hm (fun y15 w15 G15 H15 e15 hs h15 hm => ?_)
          have h_p_table := ((rP (rsC zI (rsC zI (rs1 (rT (rT (rP (rsC zI (rs1 zI)))))))))).mono e15 h_p_table
          have h_p_bad := ((rK zI)).mono e15 h_p_bad
          have h_p_rounds := RLs.mono e15 h_p_rounds
          have h_p_forced := ((rK rB)).mono e15 h_p_forced
          have b7 := Same.trans b7 e15
          have h_p_following := h15
          generalize p_following ++ [y15] = p_following at hm h_p_following
          generalize vs_p_following ++ [w15] = vs_p_following at hs h_p_following
          refine w_if (t_and (t_test (K := K) (e_eq srI (e_var (K := K) (i := 8) (R := zI) (x := p_good) rfl rfl) e_int)) (t_test (K := K) (e_isN (e_ixO (i := 3) (l := l_p_rounds) rfl (List.mem_of_getElem? (i := 1) rfl) h_p_rounds (e_var (K := K) (i := 7) (R := zI) (x := p_state) rfl rfl))))) hs hm (fun G16 H16 e16 hs hm => ?_) (fun G16 H16 e16 hs hm => ?_)
          · have h_p_table := ((rP (rsC zI (rsC zI (rs1 (rT (rT (rP (rsC zI (rs1 zI)))))))))).mono e16 h_p_table
            have h_p_bad := ((rK zI)).mono e16 h_p_bad
            have h_p_rounds := RLs.mono e16 h_p_rounds
            have h_p_forced := ((rK rB)).mono e16 h_p_forced
            have h_p_following := RLs.mono e16 h_p_following
            have b7 := Same.trans b7 e16
            refine w_set (K := K) (i := 3) 1 (xs := p_rounds) rfl rfl h_p_rounds (e_some nn_I (e_var (K := K) (i := 5) (R := zI) (x := p_turn) rfl rfl)) (e_var (K := K) (i := 7) (R := zI) (x := p_state) rfl rfl) hs hm (fun p_rounds vs_p_rounds G17 H17 e17 hs h17 hm => ?_)
            have h_p_table := ((rP (rsC zI (rsC zI (rs1 (rT (rT (rP (rsC zI (rs1 zI)))))))))).mono e17 h_p_table
            have h_p_bad := ((rK zI)).mono e17 h_p_bad
            have h_p_forced := ((rK rB)).mono e17 h_p_forced
            have h_p_following := RLs.mono e17 h_p_following
            have b7 := Same.trans b7 e17
            have h_p_rounds := h17
            refine nx_of ?_
            refine (show (_ : TS) _ ([some v_p_table, some (.int p_drivers), some v_p_bad, some (.ref l_p_rounds), some v_p_forced, some (.int p_turn), some (.ref l_p_following), some (.int p_state), some (.int p_good), d_9, d_10, none, none] : L2.St) _ from ?_)
            exact E7.nx (p_following, p_rounds) _ _ _ _ _ b7 ⟨l_p_following, vs_p_following, l_p_rounds, vs_p_rounds, some (.int p_state), some (.int p_good), d_9, d_10, rfl, rfl, h_p_following, h_p_rounds⟩ (Same.refl _) hs hm.out
          · have h_p_table := ((rP (rsC zI (rsC zI (rs1 (rT (rT (rP (rsC zI (rs1 zI)))))))))).mono e16 h_p_table
            have h_p_bad := ((rK zI)).mono e16 h_p_bad
            have h_p_rounds := RLs.mono e16 h_p_rounds
            have h_p_forced := ((rK rB)).mono e16 h_p_forced
            have h_p_following := RLs.mono e16 h_p_following
            have b7 := Same.trans b7 e16
            refine nx_of ?_
            refine (show (_ : TS) _ ([some v_p_table, some (.int p_drivers), some v_p_bad, some (.ref l_p_rounds), some v_p_forced, some (.int p_turn), some (.ref l_p_following), some (.int p_state), some (.int p_good), d_9, d_10, none, none] : L2.St) _ from ?_)
            exact E7.nx (p_following, p_rounds) _ _ _ _ _ b7 ⟨l_p_following, vs_p_following, l_p_rounds, vs_p_rounds, some (.int p_state), some (.int p_good), d_9, d_10, rfl, rfl, h_p_following, h_p_rounds⟩ (Same.refl _) hs hm.out
      · obtain ⟨p_following, p_rounds⟩ := s_
        obtain ⟨l_p_following, vs_p_following, l_p_rounds, vs_p_rounds, d_7, d_8, d_9, d_10, rfl, rfl, h_p_following, h_p_rounds⟩ := w_
        have h_p_table := ((rP (rsC zI (rsC zI (rs1 (rT (rT (rP (rsC zI (rs1 zI)))))))))).mono e7 h_p_table
        have h_p_bad := ((rK zI)).mono e7 h_p_bad
        have h_p_forced := ((rK rB)).mono e7 h_p_forced
        have h_p_rounds := RLs.mono e17 h_p_rounds
        have h_p_following := RLs.mono e17 h_p_following
        have b5 := Same.trans b5 e7
        refine (show (_ : TS) _ ([some v_p_table, some (.int p_drivers), some v_p_bad, some (.ref l_p_rounds), some v_p_forced, some (.int p_turn), some (.ref l_p_following), d_7, d_8, d_9, d_10, none, none] : L2.St) _ from ?_)
        try dsimp only at hm
        have ng19 := (hs.at 0 rfl).2.1
        have eg19 := same_new (o := HO.lst vs_p_following) ng19
        have hs := hs.give 0 rfl
        have h_p_following : (rK rB).r K _ (.ref l_p_following) p_following := ⟨l_p_following, vs_p_following, rfl, upd_same, RLs.mono eg19 h_p_following⟩
        have h_p_table := ((rP (rsC zI (rsC zI (rs1 (rT (rT (rP (rsC zI (rs1 zI)))))))))).mono eg19 h_p_table
        have h_p_bad := ((rK zI)).mono eg19 h_p_bad
        have h_p_rounds := RLs.mono eg19 h_p_rounds
        have h_p_forced := ((rK rB)).mono eg19 h_p_forced
        have b5 := Same.trans b5 eg19
        refine w_asg (K := K) (tg_name (i := 4) (R := (rK rB))) (e_var (K := K) (i := 6) (R := (rK rB)) (x := p_following) rfl h_p_following) hs hm (fun p_forced vv20 G20 H20 e20 hs hv20 hm => ?_)
        obtain ⟨v_p_forced, rfl, h_p_forced⟩ := hv20
        have h_p_table := ((rP (rsC zI (rsC zI (rs1 (rT (rT (rP (rsC zI (rs1 zI)))))))))).mono e20 h_p_table
        have h_p_bad := ((rK zI)).mono e20 h_p_bad
        have h_p_rounds := RLs.mono e20 h_p_rounds
        have h_p_following := ((rK rB)).mono e20 h_p_following
        have b5 := Same.trans b5 e20
        refine (show (_ : TS) _ ([some v_p_table, some (.int p_drivers), some v_p_bad, some (.ref l_p_rounds), some v_p_forced, some (.int p_turn), some (.ref l_p_following), d_7, d_8, d_9, d_10, none, none] : L2.St) _ from ?_)
        exact E5.nx (p_rounds, p_forced) _ _ _ _ _ b5 ⟨l_p_rounds, vs_p_rounds, v_p_forced, some (.int p_turn), some (.ref l_p_following), d_7, d_8, d_9, d_10, rfl, rfl, h_p_rounds, h_p_forced⟩ (Same.refl _) hs hm.out
    · obtain ⟨p_rounds, p_forced⟩ := s_
      obtain ⟨l_p_rounds, vs_p_rounds, v_p_forced, d_5, d_6, d_7, d_8, d_9, d_10, rfl, rfl, h_p_rounds, h_p_forced⟩ := w_
      have h_p_table := ((rP (rsC zI (rsC zI (rs1 (rT (rT (rP (rsC zI (rs1 zI)))))))))).mono e5 h_p_table
      have h_p_bad := ((rK zI)).mono e5 h_p_bad
      have h_p_rounds := RLs.mono e15 h_p_rounds
      have h_p_forced := ((rK rB)).mono e15 h_p_forced
      refine (show (_ : TS) _ ([some v_p_table, some (.int p_drivers), some v_p_bad, some (.ref l_p_rounds), some v_p_forced, d_5, d_6, d_7, d_8, d_9, d_10, none, none] : L2.St) _ from ?_)
      try dsimp only at hm
      have ng22 := (hs.at 0 rfl).2.1
      have eg22 := same_new (o := HO.lst vs_p_rounds) ng22
      have hs := hs.give 0 rfl
      have h_p_rounds : (rK (rO zI)).r K _ (.ref l_p_rounds) p_rounds := ⟨l_p_rounds, vs_p_rounds, rfl, upd_same, RLs.mono eg22 h_p_rounds⟩
      have h_p_table := ((rP (rsC zI (rsC zI (rs1 (rT (rT (rP (rsC zI (rs1 zI)))))))))).mono eg22 h_p_table
      have h_p_bad := ((rK zI)).mono eg22 h_p_bad
      have h_p_forced := ((rK rB)).mono eg22 h_p_forced
      exact w_ret0 (K := K) (e_var (K := K) (i := 3) (R := (rK (rO zI))) (x := p_rounds) rfl h_p_rounds) hs hm fun r v G2 H2 hs2 hr2 hq => hq v G2 H2 hs2.fin hr2

theorem ok_law_moves {P : Program} {w : World} {K : PySem.W.Frag} {mg : Str → Option Value} {base : Heap} {cl : Nat → Addr} {fa : Addr} {fd : FuncData} (F : Fun K "_law_moves" "_law_moves" s_law_moves fa fd) (T : Txt K mg cl) (C_law_outcomes : Cal P w K mg base "_law_outcomes" 1 ["table", "drivers", "state", "move"] (spP K cl (rsC (rP (rsC zI (rsC zI (rs1 (rT (rT (rP (rsC zI (rs1 zI))))))))) (rsC zI (rsC zI (rs1 zI)))) (rK (rP (rsC zI (rs1 zI)))) (fun a => m_law_outcomes (a.1) (a.2.1) (a.2.2.1) (a.2.2.2)))) :
    FnOk P w K mg base (L2.CX P w) 2 fa fd ["table", "drivers", "bad", "rounds"] (spP K cl (rsC (rP (rsC zI (rsC zI (rs1 (rT (rT (rP (rsC zI (rs1 zI))))))))) (rsC zI (rsC (rK zI) (rs1 (rK (rO zI)))))) (rK (rO zI)) (fun a => m_law_moves (a.1) (a.2.1) (a.2.2.1) (a.2.2.2))) := by
  refine F.okX sc_law_moves (fun vs H Q E h => ?_) (fun cdv A outer s H vs Q E hr h => ?_)
  · obtain ⟨G, a, _, hS, _⟩ := h
    exact (lnC (lnC (lnC ln1))) _ _ _ _ hS
  · obtain ⟨G, ⟨p_table, p_drivers, p_bad, p_rounds⟩, hg, hS, hm⟩ := h
    obtain ⟨v_p_table, _, rfl, h_p_table, v_p_drivers, _, rfl, h_p_drivers, v_p_bad, _, rfl, h_p_bad, v_p_rounds, rfl, h_p_rounds⟩ := hS
    cases (show v_p_drivers = V.int p_drivers from h_p_drivers)
    have tk : Takes (cxOf (L2.CX P w) P w K mg base N_law_moves "_law_moves" (defScope s_law_moves) fa cdv A outer s H E) (fun cls d _ H => E cls d H) := takes_of rfl rfl rfl rfl
    refine ⟨_, (pss_cons (ps_set (i := 4) sc_law_moves.nd rfl (by first | exact Or.inl rfl | exact Or.inr rfl) (pe_lst pa_nil))
     (pss_cons (ps_for (passes_of rfl) rfl (pi_range1 rfl T.n_range (pa_cons (pe_callB (r := rLen K) call_len (by rfl) T.n_len b_len (pa_cons (pv 3) pa_nil)) pa_nil)) (pg_name (i := 5) sc_law_moves.nd rfl (by first | exact Or.inl rfl | exact Or.inr rfl)) (pss_cons (ps_set (i := 6) sc_law_moves.nd rfl (by first | exact Or.inl rfl | exact Or.inr rfl) (pe_lst (pa_cons pe_non pa_nil)))
     (pss_cons (ps_if (pt_cmpR op_isN (pe_ix (r := rIxL K) ix_list (pv 3) (pv 5) (fun _ _ => rfl)) pe_non (nomark _)) (pss_cons (ps_for (passes_of rfl) rfl (pi_range1 rfl T.n_range (pa_cons (pe_op op_shl pe_int (pv 1)) pa_nil)) (pg_name (i := 7) sc_law_moves.nd rfl (by first | exact Or.inl rfl | exact Or.inr rfl)) (pss_cons (ps_set (i := 8) sc_law_moves.nd rfl (by first | exact Or.inl rfl | exact Or.inr rfl) (pe_call (E := E) C_law_outcomes.ok (hr.mono (by decide)) rfl C_law_outcomes.mgx C_law_outcomes.kp C_law_outcomes.bd .nil (passes_call tk (fun _ _ _ _ h => h)) (pa_cons (pv 0) (pa_cons (pv 1) (pa_cons (pv 5) (pa_cons (pv 7) pa_nil))))))
     (pss_cons (ps_if (pt_cmpR op_eq (pe_callB (r := rLen K) call_len (by rfl) T.n_len b_len (pa_cons (pe_lc (own := [("pair", 9)]) rfl sc_law_moves.nd (pi_list (pv 8)) (blkOk_by (own := [("pair", 9)]) (N := N_law_moves) (sc := defScope s_law_moves) (by decide +kernel)) (fun _ _ _ _ _ => (pg_name (i := 9) sc_law_moves.nd rfl (by first | exact Or.inl rfl | exact Or.inr rfl))) (fun _ _ _ _ _ => (pts_one (PW.pt (pw_or (pt_cmpR (r := rIn K false) op_in_seq (pe_ix (r := rIxT K) ix_tup (pv 9) pe_int (fun _ _ => rfl)) (pv 2) (by rfl)) (pw_or1 (pt_cmpR op_notN (pe_ix (r := rIxL K) ix_list (pv 3) (pe_ix (r := rIxT K) ix_tup (pv 9) pe_int (fun _ _ => rfl)) (fun _ _ => rfl)) pe_non (nomark _))))))) (fun _ _ _ _ _ => (pv 9))) pa_nil)) pe_int (nomark _)) (pss_cons (ps_expr (pe_bm PySem.F.plainAttrs_list PySem.F.slot_list_append PySem.F.type_list_append mt_append (pv 6) (pa_cons (pv 7) pa_nil)))
     pss_nil) pss_nil)
     pss_nil)))
     pss_nil) pss_nil)
     (pss_cons (ps_expr (pe_bm PySem.F.plainAttrs_list PySem.F.slot_list_append PySem.F.type_list_append mt_append (pv 4) (pa_cons (pe_ix (r := rIxL K) ix_list (pe_op op_cat (pv 6) (pe_lst (pa_cons pe_non pa_nil))) pe_int (fun _ _ => rfl)) pa_nil)))
     pss_nil))))
     (pss_cons (ps_ret (pv 4))
     pss_nil))), ?_⟩
    have hs : Hs ⟨H, G, E, cl⟩ G [] H := Hs.start hg
    have hm := Wp.ofSp (G0 := G) hm
    dsimp only at hm
    unfold m_law_moves at hm
    refine (show (_ : TS) _ ([some v_p_table, some (.int p_drivers), some v_p_bad, some v_p_rounds, none, none, none, none, none, none] : L2.St) _ from ?_)
    refine w_asgN (K := K) (R := (rO zI)) (i := 4) (e_lst l_nil (by decide)) hs hm (fun p_moves l_p_moves vs_p_moves G1 H1 e1 hs h1 hm => ?_)
    have h_p_table := ((rP (rsC zI (rsC zI (rs1 (rT (rT (rP (rsC zI (rs1 zI)))))))))).mono e1 h_p_table
    have h_p_bad := ((rK zI)).mono e1 h_p_bad
    have h_p_rounds := ((rK (rO zI))).mono e1 h_p_rounds
    have h_p_moves := h1
    refine (show (_ : TS) _ ([some v_p_table, some (.int p_drivers), some v_p_bad, some v_p_rounds, some (.ref l_p_moves), none, none, none, none, none] : L2.St) _ from ?_)
    refine w_forM (K := K) (fun (p_moves : (List (Option Int))) (σ : L2.St) (G : Hp) (O : Own) => ∃ (l_p_moves : Addr) (vs_p_moves : List V) (d_5 : Option V) (d_6 : Option V) (d_7 : Option V) (d_8 : Option V), σ = [some v_p_table, some (.int p_drivers), some v_p_bad, some v_p_rounds, some (.ref l_p_moves), d_5, d_6, d_7, d_8, none] ∧ O = [(l_p_moves, .lst vs_p_moves)] ∧ RLs (rO zI) K G vs_p_moves p_moves) (i_rng1 (e_len sq_K (e_var (K := K) (i := 3) (R := (rK (rO zI))) (x := p_rounds) rfl h_p_rounds))) (fun _ _ _ _ _ _ h => nomatch h) (tg_name (i := 5) (R := zI)) hs hm ⟨l_p_moves, vs_p_moves, none, none, none, none, rfl, rfl, h_p_moves⟩ (fun p_state p_moves σ_ G1_2 G2 O_ H2 vv2 D2 Qb2 e2 w_ e12 hs hv2 E2 hm => ?_) (fun p_moves σ_ G1_2 G2 O_ H2 e2 w_ e12 hs hm => ?_)
    · obtain ⟨l_p_moves, vs_p_moves, d_5, d_6, d_7, d_8, rfl, rfl, h_p_moves⟩ := w_
      have h_p_table := ((rP (rsC zI (rsC zI (rs1 (rT (rT (rP (rsC zI (rs1 zI)))))))))).mono e2 h_p_table
      have h_p_bad := ((rK zI)).mono e2 h_p_bad
      have h_p_rounds := ((rK (rO zI))).mono e2 h_p_rounds
      have h_p_moves := RLs.mono e12 h_p_moves
      obtain ⟨v_p_state, rfl, h_p_state⟩ := hv2
      cases (show v_p_state = V.int p_state from h_p_state)
      have b2 := Same.refl G2
      refine (show (_ : TS) _ ([some v_p_table, some (.int p_drivers), some v_p_bad, some v_p_rounds, some (.ref l_p_moves), some (.int p_state), d_6, d_7, d_8, none] : L2.St) _ from ?_)
      unfold m_law_moves_b16 at hm
      try dsimp only at hm
      refine w_asgN (K := K) (R := (rO zI)) (i := 6) (e_lst (l_cons (e_nonO (R := zI)) l_nil) (by decide)) hs hm (fun p_good l_p_good vs_p_good G3 H3 e3 hs h3 hm => ?_)
      have h_p_table := ((rP (rsC zI (rsC zI (rs1 (rT (rT (rP (rsC zI (rs1 zI)))))))))).mono e3 h_p_table
      have h_p_bad := ((rK zI)).mono e3 h_p_bad
      have h_p_rounds := ((rK (rO zI))).mono e3 h_p_rounds
      have h_p_moves := RLs.mono e3 h_p_moves
      have b2 := Same.trans b2 e3
      have h_p_good := h3
      refine (show (_ : TS) _ ([some v_p_table, some (.int p_drivers), some v_p_bad, some v_p_rounds, some (.ref l_p_moves), some (.int p_state), some (.ref l_p_good), d_7, d_8, none] : L2.St) _ from ?_)
      refine w_ifJ (k := fun s_ => (m_law_moves_j5 p_moves s_)) (fun (p_good : (List (Option Int))) (σ : L2.St) (G : Hp) (O : Own) => ∃ (l_p_good : Addr) (vs_p_good : List V) (d_7 : Option V) (d_8 : Option V), σ = [some v_p_table, some (.int p_drivers), some v_p_bad, some v_p_rounds, some (.ref l_p_moves), some (.int p_state), some (.ref l_p_good), d_7, d_8, none] ∧ O = [(l_p_good, .lst vs_p_good), (l_p_moves, .lst vs_p_moves)] ∧ RLs (rO zI) K G vs_p_good p_good) (t_test (K := K) (e_isN (e_ixL (e_KL (e_var (K := K) (i := 3) (R := (rK (rO zI))) (x := p_rounds) rfl h_p_rounds)) (e_var (K := K) (i := 5) (R := zI) (x := p_state) rfl rfl)))) hs hm (fun p_good σ_ G1_4 G4 O_ H4 e4 w_ e14 hs hm => ?_) (fun G4 H4 J4 e4 hs hm => ?_) (fun G4 H4 J4 e4 hs hm => ?_)
      · obtain ⟨l_p_good, vs_p_good, d_7, d_8, rfl, rfl, h_p_good⟩ := w_
        have h_p_table := ((rP (rsC zI (rsC zI (rs1 (rT (rT (rP (rsC zI (rs1 zI)))))))))).mono e4 h_p_table
        have h_p_bad := ((rK zI)).mono e4 h_p_bad
        have h_p_rounds := ((rK (rO zI))).mono e4 h_p_rounds
        have h_p_moves := RLs.mono e4 h_p_moves
        have h_p_good := RLs.mono e14 h_p_good
        have b2 := Same.trans b2 e4
        refine (show (_ : TS) _ ([some v_p_table, some (.int p_drivers), some v_p_bad, some v_p_rounds, some (.ref l_p_moves), some (.int p_state), some (.ref l_p_good), d_7, d_8, none] : L2.St) _ from ?_)
        unfold m_law_moves_j5 at hm
        try dsimp only at hm
        have ng6 := (hs.at 0 rfl).2.1
        have eg6 := same_new (o := HO.lst vs_p_good) ng6
        have hs := hs.give 0 rfl
        have h_p_good : (rK (rO zI)).r K _ (.ref l_p_good) p_good := ⟨l_p_good, vs_p_good, rfl, upd_same, RLs.mono eg6 h_p_good⟩
        have h_p_table := ((rP (rsC zI (rsC zI (rs1 (rT (rT (rP (rsC zI (rs1 zI)))))))))).mono eg6 h_p_table
        have h_p_bad := ((rK zI)).mono eg6 h_p_bad
        have h_p_rounds := ((rK (rO zI))).mono eg6 h_p_rounds
        have h_p_moves := RLs.mono eg6 h_p_moves
        have b2 := Same.trans b2 eg6
        refine w_app (K := K) (i := 4) 0 (xs := p_moves) rfl rfl h_p_moves (e_ixL (e_KL (EvN.evK (n_cat (e_var (K := K) (i := 6) (R := (rK (rO zI))) (x := p_good) rfl h_p_good) (EvN.evK (e_lst (l_cons (e_nonO (R := zI)) l_nil) (by decide)))))) e_int) hs hm (fun y7 w7 G7 H7 e7 hs h7 hm => ?_)
        have h_p_table := ((rP (rsC zI (rsC zI (rs1 (rT (rT (rP (rsC zI (rs1 zI)))))))))).mono e7 h_p_table
        have h_p_bad := ((rK zI)).mono e7 h_p_bad
        have h_p_rounds := ((rK (rO zI))).mono e7 h_p_rounds
        have h_p_good := ((rK (rO zI))).mono e7 h_p_good
        have b2 := Same.trans b2 e7
        have h_p_moves := h7
        generalize p_moves ++ [y7] = p_moves at hm h_p_moves
        generalize vs_p_moves ++ [w7] = vs_p_moves at hs h_p_moves
        exact E2.nx p_moves _ _ _ _ _ b2 ⟨l_p_moves, vs_p_moves, some (.int p_state), some (.ref l_p_good), d_7, d_8, rfl, rfl, h_p_moves⟩ (Same.refl _) hs hm.out
      · have h_p_table := ((rP (rsC zI (rsC zI (rs1 (rT (rT (rP (rsC zI (rs1 zI)))))))))).mono e4 h_p_table
        have h_p_bad := ((rK zI)).mono e4 h_p_bad
        have h_p_rounds := ((rK (rO zI))).mono e4 h_p_rounds
        have h_p_moves := RLs.mono e4 h_p_moves
        have h_p_good := RLs.mono e4 h_p_good
        have b2 := Same.trans b2 e4
        have b4 := Same.refl G4
        refine w_forM (K := K) (fun (p_good : (List (Option Int))) (σ : L2.St) (G : Hp) (O : Own) => ∃ (l_p_good : Addr) (vs_p_good : List V) (d_7 : Option V) (d_8 : Option V), σ = [some v_p_table, some (.int p_drivers), some v_p_bad, some v_p_rounds, some (.ref l_p_moves), some (.int p_state), some (.ref l_p_good), d_7, d_8, none] ∧ O = [(l_p_good, .lst vs_p_good), (l_p_moves, .lst vs_p_moves)] ∧ RLs (rO zI) K G vs_p_good p_good) (i_rng1 (e_shl e_int (e_var (K := K) (i := 1) (R := zI) (x := p_drivers) rfl rfl))) (fun _ _ _ _ _ _ h => nomatch h) (tg_name (i := 7) (R := zI)) hs hm ⟨l_p_good, vs_p_good, d_7, d_8, rfl, rfl, h_p_good⟩ (fun p_move p_good σ_ G1_8 G8 O_ H8 vv8 D8 Qb8 e8 w_ e18 hs hv8 E8 hm => ?_) (fun p_good σ_ G1_8 G8 O_ H8 e8 w_ e18 hs hm => ?_)
        · obtain ⟨l_p_good, vs_p_good, d_7, d_8, rfl, rfl, h_p_good⟩ := w_
          have h_p_table := ((rP (rsC zI (rsC zI (rs1 (rT (rT (rP (rsC zI (rs1 zI)))))))))).mono e8 h_p_table
          have h_p_bad := ((rK zI)).mono e8 h_p_bad
          have h_p_rounds := ((rK (rO zI))).mono e8 h_p_rounds
          have h_p_moves := RLs.mono e8 h_p_moves
          have h_p_good := RLs.mono e18 h_p_good
          obtain ⟨v_p_move, rfl, h_p_move⟩ := hv8
          cases (show v_p_move = V.int p_move from h_p_move)
          have b8 := Same.refl G8
          refine (show (_ : TS) _ ([some v_p_table, some (.int p_drivers), some v_p_bad, some v_p_rounds, some (.ref l_p_moves), some (.int p_state), some (.ref l_p_good), some (.int p_move), d_8, none] : L2.St) _ from ?_)
          unfold m_law_moves_b14 at hm
          try dsimp only at hm
          refine w_asg (K := K) (tg_name (i := 8) (R := (rK (rP (rsC zI (rs1 zI)))))) (e_call (fm := ⟨H, G, E, cl⟩) (a_cons (e_var (K := K) (i := 0) (R := (rP (rsC zI (rsC zI (rs1 (rT (rT (rP (rsC zI (rs1 zI)))))))))) (x := p_table) rfl h_p_table) (a_cons (e_var (K := K) (i := 1) (R := zI) (x := p_drivers) rfl rfl) (a_cons (e_var (K := K) (i := 5) (R := zI) (x := p_state) rfl rfl) (a_one (e_var (K := K) (i := 7) (R := zI) (x := p_move) rfl rfl)))))) hs hm (fun p_pairs vv9 G9 H9 e9 hs hv9 hm => ?_)
          obtain ⟨v_p_pairs, rfl, h_p_pairs⟩ := hv9
          have h_p_table := ((rP (rsC zI (rsC zI (rs1 (rT (rT (rP (rsC zI (rs1 zI)))))))))).mono e9 h_p_table
          have h_p_bad := ((rK zI)).mono e9 h_p_bad
          have h_p_rounds := ((rK (rO zI))).mono e9 h_p_rounds
          have h_p_moves := RLs.mono e9 h_p_moves
          have h_p_good := RLs.mono e9 h_p_good
          have b8 := Same.trans b8 e9
          refine (show (_ : TS) _ ([some v_p_table, some (.int p_drivers), some v_p_bad, some v_p_rounds, some (.ref l_p_moves), some (.int p_state), some (.ref l_p_good), some (.int p_move), some v_p_pairs, none] : L2.St) _ from ?_)
          refine w_if (t_test (K := K) (e_eq srI (e_len sq_K (EvN.evK (n_lc (S := (rP (rsC zI (rs1 zI)))) (i_list (e_KL (e_var (K := K) (i := 8) (R := (rK (rP (rsC zI (rs1 zI))))) (x := p_pairs) rfl h_p_pairs))) (fun _ h => nomatch h) (tg_name (i := 9) (R := (rP (rsC zI (rs1 zI))))) (by decide) (fun x11 vs11 G11 e11 hv11 => by
           obtain ⟨v11_p_pair, rfl, h11_p_pair⟩ := hv11
           exact ⟨(t_or (t_test (K := K) (e_in srI sq_K (e_proj (k := 1) (pjS pj1) (e_var (K := K) (i := 9) (R := (rP (rsC zI (rs1 zI)))) (x := x11) rfl h11_p_pair)) (e_var (K := K) (i := 2) (R := (rK zI)) (x := p_bad) rfl (((rK zI)).mono e11 h_p_bad)))) (t_test (K := K) (e_notN (e_ixL (e_KL (e_var (K := K) (i := 3) (R := (rK (rO zI))) (x := p_rounds) rfl (((rK (rO zI))).mono e11 h_p_rounds))) (e_proj (k := 0) pj0 (e_var (K := K) (i := 9) (R := (rP (rsC zI (rs1 zI)))) (x := x11) rfl h11_p_pair)))))), (e_var (K := K) (i := 9) (R := (rP (rsC zI (rs1 zI)))) (x := x11) rfl h11_p_pair)⟩)))) e_int)) hs hm (fun G12 H12 e12 hs hm => ?_) (fun G12 H12 e12 hs hm => ?_)
          · have h_p_table := ((rP (rsC zI (rsC zI (rs1 (rT (rT (rP (rsC zI (rs1 zI)))))))))).mono e12 h_p_table
            have h_p_bad := ((rK zI)).mono e12 h_p_bad
            have h_p_rounds := ((rK (rO zI))).mono e12 h_p_rounds
            have h_p_moves := RLs.mono e12 h_p_moves
            have h_p_good := RLs.mono e12 h_p_good
            have h_p_pairs := ((rK (rP (rsC zI (rs1 zI))))).mono e12 h_p_pairs
            have b8 := Same.trans b8 e12
            refine w_app (K := K) (i := 6) 0 (xs := p_good) rfl rfl h_p_good (e_some nn_I (e_var (K := K) (i := 7) (R := zI) (x := p_move) rfl rfl)) hs hm (fun y13 w13 G13 H13 e13 hs h13 hm => ?_)
            have h_p_table := ((rP (rsC zI (rsC zI (rs1 (rT (rT (rP (rsC zI (rs1 zI)))))))))).mono e13 h_p_table
            have h_p_bad := ((rK zI)).mono e13 h_p_bad
            have h_p_rounds := ((rK (rO zI))).mono e13 h_p_rounds
            have h_p_moves := RLs.mono e13 h_p_moves
            have h_p_pairs := ((rK (rP (rsC zI (rs1 zI))))).mono e13 h_p_pairs
            have b8 := Same.trans b8 e13
            have h_p_good := h13
            generalize p_good ++ [y13] = p_good at hm h_p_good
            generalize vs_p_good ++ [w13] = vs_p_good at hs h_p_good
            refine nx_of ?_
            refine (show (_ : TS) _ ([some v_p_table, some (.int p_drivers), some v_p_bad, some v_p_rounds, some (.ref l_p_moves), some (.int p_state), some (.ref l_p_good), some (.int p_move), some v_p_pairs, none] : L2.St) _ from ?_)
            exact E8.nx p_good _ _ _ _ _ b8 ⟨l_p_good, vs_p_good, some (.int p_move), some v_p_pairs, rfl, rfl, h_p_good⟩ (Same.refl _) hs hm.out
          · have h_p_table := ((rP (rsC zI (rsC zI (rs1 (rT (rT (rP (rsC zI (rs1 zI)))))))))).mono e12 h_p_table
            have h_p_bad := ((rK zI)).mono e12 h_p_bad
            have h_p_rounds := ((rK (rO zI))).mono e12 h_p_rounds
            have h_p_moves := RLs.mono e12 h_p_moves
            have h_p_good := RLs.mono e12 h_p_good
            have h_p_pairs := ((rK (rP (rsC zI (rs1 zI))))).mono e12 h_p_pairs
            have b8 := Same.trans b8 e12
            refine nx_of ?_
            refine (show (_ : TS) _ ([some v_p_table, some (.int p_drivers), some v_p_bad, some v_p_rounds, some (.ref l_p_moves), some (.int p_state), some (.ref l_p_good), some (.int p_move), some v_p_pairs, none] : L2.St) _ from ?_)
            exact E8.nx p_good _ _ _ _ _ b8 ⟨l_p_good, vs_p_good, some (.int p_move), some v_p_pairs, rfl, rfl, h_p_good⟩ (Same.refl _) hs hm.out
        · obtain ⟨l_p_good, vs_p_good, d_7, d_8, rfl, rfl, h_p_good⟩ := w_
          have h_p_table := ((rP (rsC zI (rsC zI (rs1 (rT (rT (rP (rsC zI (rs1 zI)))))))))).mono e8 h_p_table
          have h_p_bad := ((rK zI)).mono e8 h_p_bad
          have h_p_rounds := ((rK (rO zI))).mono e8 h_p_rounds
          have h_p_moves := RLs.mono e8 h_p_moves
          have h_p_good := RLs.mono e18 h_p_good
          have b2 := Same.trans b2 e8
          have b4 := Same.trans b4 e8
          refine (show (_ : TS) _ ([some v_p_table, some (.int p_drivers), some v_p_bad, some v_p_rounds, some (.ref l_p_moves), some (.int p_state), some (.ref l_p_good), d_7, d_8, none] : L2.St) _ from ?_)
          try dsimp only at hm
          exact J4.nx p_good _ _ _ _ _ b4 ⟨l_p_good, vs_p_good, d_7, d_8, rfl, rfl, h_p_good⟩ (Same.refl _) hs hm
      · have h_p_table := ((rP (rsC zI (rsC zI (rs1 (rT (rT (rP (rsC zI (rs1 zI)))))))))).mono e4 h_p_table
        have h_p_bad := ((rK zI)).mono e4 h_p_bad
        have h_p_rounds := ((rK (rO zI))).mono e4 h_p_rounds
        have h_p_moves := RLs.mono e4 h_p_moves
        have h_p_good := RLs.mono e4 h_p_good
        have b2 := Same.trans b2 e4
        have b4 := Same.refl G4
        exact J4.nx p_good _ _ _ _ _ b4 ⟨l_p_good, vs_p_good, d_7, d_8, rfl, rfl, h_p_good⟩ (Same.refl _) hs hm
    · obtain ⟨l_p_moves, vs_p_moves, d_5, d_6, d_7, d_8, rfl, rfl, h_p_moves⟩ := w_
      have h_p_table := ((rP (rsC zI (rsC zI (rs1 (rT (rT (rP (rsC zI (rs1 zI)))))))))).mono e2 h_p_table
      have h_p_bad := ((rK zI)).mono e2 h_p_bad
      have h_p_rounds := ((rK (rO zI))).mono e2 h_p_rounds
      have h_p_moves := RLs.mono e12 h_p_moves
      refine (show (_ : TS) _ ([some v_p_table, some (.int p_drivers), some v_p_bad, some v_p_rounds, some (.ref l_p_moves), d_5, d_6, d_7, d_8, none] : L2.St) _ from ?_)
      try dsimp only at hm
      have ng15 := (hs.at 0 rfl).2.1
      have eg15 := same_new (o := HO.lst vs_p_moves) ng15
      have hs := hs.give 0 rfl
      have h_p_moves : (rK (rO zI)).r K _ (.ref l_p_moves) p_moves := ⟨l_p_moves, vs_p_moves, rfl, upd_same, RLs.mono eg15 h_p_moves⟩
      have h_p_table := ((rP (rsC zI (rsC zI (rs1 (rT (rT (rP (rsC zI (rs1 zI)))))))))).mono eg15 h_p_table
      have h_p_bad := ((rK zI)).mono eg15 h_p_bad
      have h_p_rounds := ((rK (rO zI))).mono eg15 h_p_rounds
      exact w_ret0 (K := K) (e_var (K := K) (i := 4) (R := (rK (rO zI))) (x := p_moves) rfl h_p_moves) hs hm fun r v G2 H2 hs2 hr2 hq => hq v G2 H2 hs2.fin hr2

theorem ok_law_usable {P : Program} {w : World} {K : PySem.W.Frag} {mg : Str → Option Value} {base : Heap} {cl : Nat → Addr} {fa : Addr} {fd : FuncData} (F : Fun K "_law_usable" "_law_usable" s_law_usable fa fd) (T : Txt K mg cl) (C_law_outcomes : Cal P w K mg base "_law_outcomes" 1 ["table", "drivers", "state", "move"] (spP K cl (rsC (rP (rsC zI (rsC zI (rs1 (rT (rT (rP (rsC zI (rs1 zI))))))))) (rsC zI (rsC zI (rs1 zI)))) (rK (rP (rsC zI (rs1 zI)))) (fun a => m_law_outcomes (a.1) (a.2.1) (a.2.2.1) (a.2.2.2)))) :
    FnOk P w K mg base (L2.CX P w) 2 fa fd ["table", "drivers", "moves"] (spP K cl (rsC (rP (rsC zI (rsC zI (rs1 (rT (rT (rP (rsC zI (rs1 zI))))))))) (rsC zI (rs1 (rK (rO zI))))) rB (fun a => m_law_usable (a.1) (a.2.1) (a.2.2))) := by
  refine F.okX sc_law_usable (fun vs H Q E h => ?_) (fun cdv A outer s H vs Q E hr h => ?_)
  · obtain ⟨G, a, _, hS, _⟩ := h
    exact (lnC (lnC ln1)) _ _ _ _ hS
  · obtain ⟨G, ⟨p_table, p_drivers, p_moves⟩, hg, hS, hm⟩ := h
    obtain ⟨v_p_table, _, rfl, h_p_table, v_p_drivers, _, rfl, h_p_drivers, v_p_moves, rfl, h_p_moves⟩ := hS
    cases (show v_p_drivers = V.int p_drivers from h_p_drivers)
    have tk : Takes (cxOf (L2.CX P w) P w K mg base N_law_usable "_law_usable" (defScope s_law_usable) fa cdv A outer s H E) (fun cls d _ H => E cls d H) := takes_of rfl rfl rfl rfl
    refine ⟨_, (pss_cons (ps_if (PW.pt (pw_or (pt_cmpR op_ne (pe_callB (r := rLen K) call_len (by rfl) T.n_len b_len (pa_cons (pv 2) pa_nil)) (pe_callB (r := rLen K) call_len (by rfl) T.n_len b_len (pa_cons (pe_ix (r := rIxT K) ix_tup (pv 0) pe_int (fun _ _ => rfl)) pa_nil)) (nomark _)) (pw_or1 (pt_cmpR op_isN (pe_ix (r := rIxL K) ix_list (pv 2) pe_int (fun _ _ => rfl)) pe_non (nomark _))))) (pss_cons (ps_ret pe_bl)
     pss_nil) pss_nil)
     (pss_cons (ps_for (passes_of rfl) rfl (pi_range1 rfl T.n_range (pa_cons (pe_callB (r := rLen K) call_len (by rfl) T.n_len b_len (pa_cons (pv 2) pa_nil)) pa_nil)) (pg_name (i := 3) sc_law_usable.nd rfl (by first | exact Or.inl rfl | exact Or.inr rfl)) (pss_cons (ps_if (pt_cmpR op_notN (pe_ix (r := rIxL K) ix_list (pv 2) (pv 3) (fun _ _ => rfl)) pe_non (nomark _)) (pss_cons (ps_if (PW.pt (pw_or (pt_cmpR op_lt (pe_ix (r := rIxL K) ix_list (pv 2) (pv 3) (fun _ _ => rfl)) pe_int (nomark _)) (pw_or1 (pt_cmpR op_ge (pe_ix (r := rIxL K) ix_list (pv 2) (pv 3) (fun _ _ => rfl)) (pe_op op_shl pe_int (pv 1)) (nomark _))))) (pss_cons (ps_ret pe_bl)
     pss_nil) pss_nil)
     (pss_cons (ps_for (passes_of rfl) rfl (pi_list (pe_call (E := E) C_law_outcomes.ok (hr.mono (by decide)) rfl C_law_outcomes.mgx C_law_outcomes.kp C_law_outcomes.bd .nil (passes_call tk (fun _ _ _ _ h => h)) (pa_cons (pv 0) (pa_cons (pv 1) (pa_cons (pv 3) (pa_cons (pe_ix (r := rIxL K) ix_list (pv 2) (pv 3) (fun _ _ => rfl)) pa_nil)))))) (show PG _ _ (gTup K 2 _) from pg_tup rfl (pgs_cons (pg_name (i := 4) sc_law_usable.nd rfl (by first | exact Or.inl rfl | exact Or.inr rfl)) (pgs_cons (pg_name (i := 5) sc_law_usable.nd rfl (by first | exact Or.inl rfl | exact Or.inr rfl)) pgs_nil))) (pss_cons (ps_if (pt_cmpR op_isN (pe_ix (r := rIxL K) ix_list (pv 2) (pv 4) (fun _ _ => rfl)) pe_non (nomark _)) (pss_cons (ps_ret pe_bl)
     pss_nil) pss_nil)
     pss_nil))
     pss_nil)) pss_nil)
     pss_nil))
     (pss_cons (ps_ret pe_bl)
     pss_nil))), ?_⟩
    have hs : Hs ⟨H, G, E, cl⟩ G [] H := Hs.start hg
    have hm := Wp.ofSp (G0 := G) hm
    dsimp only at hm
    unfold m_law_usable at hm
    refine (show (_ : TS) _ ([some v_p_table, some (.int p_drivers), some v_p_moves, none, none, none] : L2.St) _ from ?_)
    refine w_if (t_or (t_test (K := K) (e_ne srI (e_len sq_K (e_var (K := K) (i := 2) (R := (rK (rO zI))) (x := p_moves) rfl h_p_moves)) (e_len sq_T (e_proj (k := 2) (pjS (pjS pj1)) (e_var (K := K) (i := 0) (R := (rP (rsC zI (rsC zI (rs1 (rT (rT (rP (rsC zI (rs1 zI)))))))))) (x := p_table) rfl h_p_table))))) (t_test (K := K) (e_isN (e_ixL (e_KL (e_var (K := K) (i := 2) (R := (rK (rO zI))) (x := p_moves) rfl h_p_moves)) e_int)))) hs hm (fun G1 H1 e1 hs hm => ?_) (fun G1 H1 e1 hs hm => ?_)
    · have h_p_table := ((rP (rsC zI (rsC zI (rs1 (rT (rT (rP (rsC zI (rs1 zI)))))))))).mono e1 h_p_table
      have h_p_moves := ((rK (rO zI))).mono e1 h_p_moves
      exact w_ret0 (K := K) e_bl hs hm fun r v G2 H2 hs2 hr2 hq => hq v G2 H2 hs2.fin hr2
    · have h_p_table := ((rP (rsC zI (rsC zI (rs1 (rT (rT (rP (rsC zI (rs1 zI)))))))))).mono e1 h_p_table
      have h_p_moves := ((rK (rO zI))).mono e1 h_p_moves
      refine nx_of ?_
      refine (show (_ : TS) _ ([some v_p_table, some (.int p_drivers), some v_p_moves, none, none, none] : L2.St) _ from ?_)
      refine w_forB (K := K) (Rr := rB) (fun (_ : Unit) (σ : L2.St) (G : Hp) (O : Own) => ∃ (d_3 : Option V) (d_4 : Option V) (d_5 : Option V), σ = [some v_p_table, some (.int p_drivers), some v_p_moves, d_3, d_4, d_5] ∧ O = []) (i_rng1 (e_len sq_K (e_var (K := K) (i := 2) (R := (rK (rO zI))) (x := p_moves) rfl h_p_moves))) (fun _ _ _ _ _ _ h => nomatch h) (tg_name (i := 3) (R := zI)) hs hm ⟨none, none, none, rfl, rfl⟩ (fun r v G2 O2 H2 hs2 hr2 hq => hq v G2 H2 hs2.fin hr2) (fun p_state s_ σ_ G1_2 G2 O_ H2 vv2 D2 Qb2 e2 w_ e12 hs hv2 E2 hm => ?_) (fun s_ σ_ G1_2 G2 O_ H2 e2 w_ e12 hs hm => ?_)
      · obtain ⟨d_3, d_4, d_5, rfl, rfl⟩ := w_
        have h_p_table := ((rP (rsC zI (rsC zI (rs1 (rT (rT (rP (rsC zI (rs1 zI)))))))))).mono e2 h_p_table
        have h_p_moves := ((rK (rO zI))).mono e2 h_p_moves
        obtain ⟨v_p_state, rfl, h_p_state⟩ := hv2
        cases (show v_p_state = V.int p_state from h_p_state)
        have b2 := Same.refl G2
        refine (show (_ : TS) _ ([some v_p_table, some (.int p_drivers), some v_p_moves, some (.int p_state), d_4, d_5] : L2.St) _ from ?_)
        unfold m_law_usable_b8 at hm
        try dsimp only at hm
        refine w_if (t_test (K := K) (e_notN (e_ixL (e_KL (e_var (K := K) (i := 2) (R := (rK (rO zI))) (x := p_moves) rfl h_p_moves)) (e_var (K := K) (i := 3) (R := zI) (x := p_state) rfl rfl)))) hs hm (fun G3 H3 e3 hs hm => ?_) (fun G3 H3 e3 hs hm => ?_)
        · have h_p_table := ((rP (rsC zI (rsC zI (rs1 (rT (rT (rP (rsC zI (rs1 zI)))))))))).mono e3 h_p_table
          have h_p_moves := ((rK (rO zI))).mono e3 h_p_moves
          have b2 := Same.trans b2 e3
          refine w_if (t_or (t_test (K := K) (e_cmp (p := fun i j => decide (i < j)) (e_get (e_ixL (e_KL (e_var (K := K) (i := 2) (R := (rK (rO zI))) (x := p_moves) rfl h_p_moves)) (e_var (K := K) (i := 3) (R := zI) (x := p_state) rfl rfl))) e_int)) (t_test (K := K) (e_cmp (p := fun i j => decide (j ≤ i)) (e_get (e_ixL (e_KL (e_var (K := K) (i := 2) (R := (rK (rO zI))) (x := p_moves) rfl h_p_moves)) (e_var (K := K) (i := 3) (R := zI) (x := p_state) rfl rfl))) (e_shl e_int (e_var (K := K) (i := 1) (R := zI) (x := p_drivers) rfl rfl))))) hs hm (fun G4 H4 e4 hs hm => ?_) (fun G4 H4 e4 hs hm => ?_)
          · have h_p_table := ((rP (rsC zI (rsC zI (rs1 (rT (rT (rP (rsC zI (rs1 zI)))))))))).mono e4 h_p_table
            have h_p_moves := ((rK (rO zI))).mono e4 h_p_moves
            have b2 := Same.trans b2 e4
            exact w_ret (K := K) (kr := Tn.rt) e_bl hs hm fun r v G2 H2 hs2 hr2 hq => E2.rt r v _ _ _ hs2 hr2 hq
          · have h_p_table := ((rP (rsC zI (rsC zI (rs1 (rT (rT (rP (rsC zI (rs1 zI)))))))))).mono e4 h_p_table
            have h_p_moves := ((rK (rO zI))).mono e4 h_p_moves
            have b2 := Same.trans b2 e4
            refine nx_of ?_
            refine (show (_ : TS) _ ([some v_p_table, some (.int p_drivers), some v_p_moves, some (.int p_state), d_4, d_5] : L2.St) _ from ?_)
            refine w_forB (K := K) (Rr := rB) (fun (_ : Unit) (σ : L2.St) (G : Hp) (O : Own) => ∃ (d_4 : Option V) (d_5 : Option V), σ = [some v_p_table, some (.int p_drivers), some v_p_moves, some (.int p_state), d_4, d_5] ∧ O = []) (i_list (e_KL (e_call (fm := ⟨H, G, E, cl⟩) (a_cons (e_var (K := K) (i := 0) (R := (rP (rsC zI (rsC zI (rs1 (rT (rT (rP (rsC zI (rs1 zI)))))))))) (x := p_table) rfl h_p_table) (a_cons (e_var (K := K) (i := 1) (R := zI) (x := p_drivers) rfl rfl) (a_cons (e_var (K := K) (i := 3) (R := zI) (x := p_state) rfl rfl) (a_one (e_get (e_ixL (e_KL (e_var (K := K) (i := 2) (R := (rK (rO zI))) (x := p_moves) rfl h_p_moves)) (e_var (K := K) (i := 3) (R := zI) (x := p_state) rfl rfl)))))))))) (fun _ _ _ _ _ _ h => nomatch h) (tg_tup2) hs hm ⟨d_4, d_5, rfl, rfl⟩ (fun r v G2 O2 H2 hs2 hr2 hq => E2.rt r v _ _ _ hs2 hr2 hq) (fun x5 s_ σ_ G1_5 G5 O_ H5 vv5 D5 Qb5 e5 w_ e15 hs hv5 E5 hm => ?_) (fun s_ σ_ G1_5 G5 O_ H5 e5 w_ e15 hs hm => ?_)
            · obtain ⟨d_4, d_5, rfl, rfl⟩ := w_
              have h_p_table := ((rP (rsC zI (rsC zI (rs1 (rT (rT (rP (rsC zI (rs1 zI)))))))))).mono e5 h_p_table
              have h_p_moves := ((rK (rO zI))).mono e5 h_p_moves
              obtain ⟨p_target, p_answer⟩ := x5
              obtain ⟨v_p_target, _, rfl, h_p_target, v_p_answer, rfl, h_p_answer⟩ := hv5
              cases (show v_p_target = V.int p_target from h_p_target)
              cases (show v_p_answer = V.int p_answer from h_p_answer)
              have b5 := Same.refl G5
              refine (show (_ : TS) _ ([some v_p_table, some (.int p_drivers), some v_p_moves, some (.int p_state), some (.int p_target), some (.int p_answer)] : L2.St) _ from ?_)
              unfold m_law_usable_b7 at hm
              try dsimp only at hm
              refine w_if (t_test (K := K) (e_isN (e_ixL (e_KL (e_var (K := K) (i := 2) (R := (rK (rO zI))) (x := p_moves) rfl h_p_moves)) (e_var (K := K) (i := 4) (R := zI) (x := p_target) rfl rfl)))) hs hm (fun G6 H6 e6 hs hm => ?_) (fun G6 H6 e6 hs hm => ?_)
              · have h_p_table := ((rP (rsC zI (rsC zI (rs1 (rT (rT (rP (rsC zI (rs1 zI)))))))))).mono e6 h_p_table
                have h_p_moves := ((rK (rO zI))).mono e6 h_p_moves
                have b5 := Same.trans b5 e6
                exact w_ret (K := K) (kr := Tn.rt) e_bl hs hm fun r v G2 H2 hs2 hr2 hq => E5.rt r v _ _ _ hs2 hr2 hq
              · have h_p_table := ((rP (rsC zI (rsC zI (rs1 (rT (rT (rP (rsC zI (rs1 zI)))))))))).mono e6 h_p_table
                have h_p_moves := ((rK (rO zI))).mono e6 h_p_moves
                have b5 := Same.trans b5 e6
                refine nx_of ?_
                refine (show (_ : TS) _ ([some v_p_table, some (.int p_drivers), some v_p_moves, some (.int p_state), some (.int p_target), some (.int p_answer)] : L2.St) _ from ?_)
                exact E5.nx () _ _ _ _ _ b5 ⟨some (.int p_target), some (.int p_answer), rfl, rfl⟩ (Same.refl _) hs hm.out
            · obtain ⟨d_4, d_5, rfl, rfl⟩ := w_
              have h_p_table := ((rP (rsC zI (rsC zI (rs1 (rT (rT (rP (rsC zI (rs1 zI)))))))))).mono e5 h_p_table
              have h_p_moves := ((rK (rO zI))).mono e5 h_p_moves
              have b2 := Same.trans b2 e5
              refine (show (_ : TS) _ ([some v_p_table, some (.int p_drivers), some v_p_moves, some (.int p_state), d_4, d_5] : L2.St) _ from ?_)
              try dsimp only at hm
              refine nx_of ?_
              refine (show (_ : TS) _ ([some v_p_table, some (.int p_drivers), some v_p_moves, some (.int p_state), d_4, d_5] : L2.St) _ from ?_)
              exact E2.nx () _ _ _ _ _ b2 ⟨some (.int p_state), d_4, d_5, rfl, rfl⟩ (Same.refl _) hs hm.out
        · have h_p_table := ((rP (rsC zI (rsC zI (rs1 (rT (rT (rP (rsC zI (rs1 zI)))))))))).mono e3 h_p_table
          have h_p_moves := ((rK (rO zI))).mono e3 h_p_moves
          have b2 := Same.trans b2 e3
          refine nx_of ?_
          refine (show (_ : TS) _ ([some v_p_table, some (.int p_drivers), some v_p_moves, some (.int p_state), d_4, d_5] : L2.St) _ from ?_)
          exact E2.nx () _ _ _ _ _ b2 ⟨some (.int p_state), d_4, d_5, rfl, rfl⟩ (Same.refl _) hs hm.out
      · obtain ⟨d_3, d_4, d_5, rfl, rfl⟩ := w_
        have h_p_table := ((rP (rsC zI (rsC zI (rs1 (rT (rT (rP (rsC zI (rs1 zI)))))))))).mono e2 h_p_table
        have h_p_moves := ((rK (rO zI))).mono e2 h_p_moves
        refine (show (_ : TS) _ ([some v_p_table, some (.int p_drivers), some v_p_moves, d_3, d_4, d_5] : L2.St) _ from ?_)
        try dsimp only at hm
        exact w_ret0 (K := K) e_bl hs hm fun r v G2 H2 hs2 hr2 hq => hq v G2 H2 hs2.fin hr2

theorem ok_law_safe {P : Program} {w : World} {K : PySem.W.Frag} {mg : Str → Option Value} {base : Heap} {cl : Nat → Addr} {fa : Addr} {fd : FuncData} (F : Fun K "_law_safe" "_law_safe" s_law_safe fa fd) (T : Txt K mg cl) (C_law_usable : Cal P w K mg base "_law_usable" 2 ["table", "drivers", "moves"] (spP K cl (rsC (rP (rsC zI (rsC zI (rs1 (rT (rT (rP (rsC zI (rs1 zI))))))))) (rsC zI (rs1 (rK (rO zI))))) rB (fun a => m_law_usable (a.1) (a.2.1) (a.2.2)))) (C_law_outcomes : Cal P w K mg base "_law_outcomes" 1 ["table", "drivers", "state", "move"] (spP K cl (rsC (rP (rsC zI (rsC zI (rs1 (rT (rT (rP (rsC zI (rs1 zI))))))))) (rsC zI (rsC zI (rs1 zI)))) (rK (rP (rsC zI (rs1 zI)))) (fun a => m_law_outcomes (a.1) (a.2.1) (a.2.2.1) (a.2.2.2)))) :
    FnOk P w K mg base (L2.CX P w) 3 fa fd ["table", "drivers", "bad", "moves"] (spP K cl (rsC (rP (rsC zI (rsC zI (rs1 (rT (rT (rP (rsC zI (rs1 zI))))))))) (rsC zI (rsC (rK zI) (rs1 (rK (rO zI)))))) rB (fun a => m_law_safe (a.1) (a.2.1) (a.2.2.1) (a.2.2.2))) := by
  refine F.okX sc_law_safe (fun vs H Q E h => ?_) (fun cdv A outer s H vs Q E hr h => ?_)
  · obtain ⟨G, a, _, hS, _⟩ := h
    exact (lnC (lnC (lnC ln1))) _ _ _ _ hS
  · obtain ⟨G, ⟨p_table, p_drivers, p_bad, p_moves⟩, hg, hS, hm⟩ := h
    obtain ⟨v_p_table, _, rfl, h_p_table, v_p_drivers, _, rfl, h_p_drivers, v_p_bad, _, rfl, h_p_bad, v_p_moves, rfl, h_p_moves⟩ := hS
    cases (show v_p_drivers = V.int p_drivers from h_p_drivers)
    have tk : Takes (cxOf (L2.CX P w) P w K mg base N_law_safe "_law_safe" (defScope s_law_safe) fa cdv A outer s H E) (fun cls d _ H => E cls d H) := takes_of rfl rfl rfl rfl
    refine ⟨_, (pss_cons (ps_if (pt_not (pt_val (pe_call (E := E) C_law_usable.ok (hr.mono (by decide)) rfl C_law_usable.mgx C_law_usable.kp C_law_usable.bd .nil (passes_call tk (fun _ _ _ _ h => h)) (pa_cons (pv 0) (pa_cons (pv 1) (pa_cons (pv 3) pa_nil)))))) (pss_cons (ps_ret pe_bl)
     pss_nil) pss_nil)
     (pss_cons (ps_for (passes_of rfl) rfl (pi_range1 rfl T.n_range (pa_cons (pe_callB (r := rLen K) call_len (by rfl) T.n_len b_len (pa_cons (pv 3) pa_nil)) pa_nil)) (pg_name (i := 4) sc_law_safe.nd rfl (by first | exact Or.inl rfl | exact Or.inr rfl)) (pss_cons (ps_if (pt_cmpR op_notN (pe_ix (r := rIxL K) ix_list (pv 3) (pv 4) (fun _ _ => rfl)) pe_non (nomark _)) (pss_cons (ps_set (i := 5) sc_law_safe.nd rfl (by first | exact Or.inl rfl | exact Or.inr rfl) (pe_call (E := E) C_law_outcomes.ok (hr.mono (by decide)) rfl C_law_outcomes.mgx C_law_outcomes.kp C_law_outcomes.bd .nil (passes_call tk (fun _ _ _ _ h => h)) (pa_cons (pv 0) (pa_cons (pv 1) (pa_cons (pv 4) (pa_cons (pe_ix (r := rIxL K) ix_list (pv 3) (pv 4) (fun _ _ => rfl)) pa_nil))))))
     (pss_cons (ps_if (pt_cmpR op_gt (pe_callB (r := rLen K) call_len (by rfl) T.n_len b_len (pa_cons (pe_lc (own := [("pair", 6)]) rfl sc_law_safe.nd (pi_list (pv 5)) (blkOk_by (own := [("pair", 6)]) (N := N_law_safe) (sc := defScope s_law_safe) (by decide +kernel)) (fun _ _ _ _ _ => (pg_name (i := 6) sc_law_safe.nd rfl (by first | exact Or.inl rfl | exact Or.inr rfl))) (fun _ _ _ _ _ => (pts_one (pt_cmpR (r := rIn K false) op_in_seq (pe_ix (r := rIxT K) ix_tup (pv 6) pe_int (fun _ _ => rfl)) (pv 2) (by rfl)))) (fun _ _ _ _ _ => (pv 6))) pa_nil)) pe_int (nomark _)) (pss_cons (ps_ret pe_bl)
     pss_nil) pss_nil)
     pss_nil)) pss_nil)
     pss_nil))
     (pss_cons (ps_ret pe_bl)
     pss_nil))), ?_⟩
    have hs : Hs ⟨H, G, E, cl⟩ G [] H := Hs.start hg
    have hm := Wp.ofSp (G0 := G) hm
    dsimp only at hm
    unfold m_law_safe at hm
    refine (show (_ : TS) _ ([some v_p_table, some (.int p_drivers), some v_p_bad, some v_p_moves, none, none, none] : L2.St) _ from ?_)
    refine w_if (t_not (t_val (K := K) (e_call (fm := ⟨H, G, E, cl⟩) (a_cons (e_var (K := K) (i := 0) (R := (rP (rsC zI (rsC zI (rs1 (rT (rT (rP (rsC zI (rs1 zI)))))))))) (x := p_table) rfl h_p_table) (a_cons (e_var (K := K) (i := 1) (R := zI) (x := p_drivers) rfl rfl) (a_one (e_var (K := K) (i := 3) (R := (rK (rO zI))) (x := p_moves) rfl h_p_moves))))))) hs hm (fun G1 H1 e1 hs hm => ?_) (fun G1 H1 e1 hs hm => ?_)
    · have h_p_table := ((rP (rsC zI (rsC zI (rs1 (rT (rT (rP (rsC zI (rs1 zI)))))))))).mono e1 h_p_table
      have h_p_bad := ((rK zI)).mono e1 h_p_bad
      have h_p_moves := ((rK (rO zI))).mono e1 h_p_moves
      exact w_ret0 (K := K) e_bl hs hm fun r v G2 H2 hs2 hr2 hq => hq v G2 H2 hs2.fin hr2
    · have h_p_table := ((rP (rsC zI (rsC zI (rs1 (rT (rT (rP (rsC zI (rs1 zI)))))))))).mono e1 h_p_table
      have h_p_bad := ((rK zI)).mono e1 h_p_bad
      have h_p_moves := ((rK (rO zI))).mono e1 h_p_moves
      refine nx_of ?_
      refine (show (_ : TS) _ ([some v_p_table, some (.int p_drivers), some v_p_bad, some v_p_moves, none, none, none] : L2.St) _ from ?_)
      refine w_forB (K := K) (Rr := rB) (fun (_ : Unit) (σ : L2.St) (G : Hp) (O : Own) => ∃ (d_4 : Option V) (d_5 : Option V), σ = [some v_p_table, some (.int p_drivers), some v_p_bad, some v_p_moves, d_4, d_5, none] ∧ O = []) (i_rng1 (e_len sq_K (e_var (K := K) (i := 3) (R := (rK (rO zI))) (x := p_moves) rfl h_p_moves))) (fun _ _ _ _ _ _ h => nomatch h) (tg_name (i := 4) (R := zI)) hs hm ⟨none, none, rfl, rfl⟩ (fun r v G2 O2 H2 hs2 hr2 hq => hq v G2 H2 hs2.fin hr2) (fun p_state s_ σ_ G1_2 G2 O_ H2 vv2 D2 Qb2 e2 w_ e12 hs hv2 E2 hm => ?_) (fun s_ σ_ G1_2 G2 O_ H2 e2 w_ e12 hs hm => ?_)
      · obtain ⟨d_4, d_5, rfl, rfl⟩ := w_
        have h_p_table := ((rP (rsC zI (rsC zI (rs1 (rT (rT (rP (rsC zI (rs1 zI)))))))))).mono e2 h_p_table
        have h_p_bad := ((rK zI)).mono e2 h_p_bad
        have h_p_moves := ((rK (rO zI))).mono e2 h_p_moves
        obtain ⟨v_p_state, rfl, h_p_state⟩ := hv2
        cases (show v_p_state = V.int p_state from h_p_state)
        have b2 := Same.refl G2
        refine (show (_ : TS) _ ([some v_p_table, some (.int p_drivers), some v_p_bad, some v_p_moves, some (.int p_state), d_5, none] : L2.St) _ from ?_)
        unfold m_law_safe_b7 at hm
        try dsimp only at hm
        refine w_if (t_test (K := K) (e_notN (e_ixL (e_KL (e_var (K := K) (i := 3) (R := (rK (rO zI))) (x := p_moves) rfl h_p_moves)) (e_var (K := K) (i := 4) (R := zI) (x := p_state) rfl rfl)))) hs hm (fun G3 H3 e3 hs hm => ?_) (fun G3 H3 e3 hs hm => ?_)
        · have h_p_table := ((rP (rsC zI (rsC zI (rs1 (rT (rT (rP (rsC zI (rs1 zI)))))))))).mono e3 h_p_table
          have h_p_bad := ((rK zI)).mono e3 h_p_bad
          have h_p_moves := ((rK (rO zI))).mono e3 h_p_moves
          have b2 := Same.trans b2 e3
          refine w_asg (K := K) (tg_name (i := 5) (R := (rK (rP (rsC zI (rs1 zI)))))) (e_call (fm := ⟨H, G, E, cl⟩) (a_cons (e_var (K := K) (i := 0) (R := (rP (rsC zI (rsC zI (rs1 (rT (rT (rP (rsC zI (rs1 zI)))))))))) (x := p_table) rfl h_p_table) (a_cons (e_var (K := K) (i := 1) (R := zI) (x := p_drivers) rfl rfl) (a_cons (e_var (K := K) (i := 4) (R := zI) (x := p_state) rfl rfl) (a_one (e_get (e_ixL (e_KL (e_var (K := K) (i := 3) (R := (rK (rO zI))) (x := p_moves) rfl h_p_moves)) (e_var (K := K) (i := 4) (R := zI) (x := p_state) rfl rfl)))))))) hs hm (fun p_pairs vv4 G4 H4 e4 hs hv4 hm => ?_)
          obtain ⟨v_p_pairs, rfl, h_p_pairs⟩ := hv4
          have h_p_table := ((rP (rsC zI (rsC zI (rs1 (rT (rT (rP (rsC zI (rs1 zI)))))))))).mono e4 h_p_table
          have h_p_bad := ((rK zI)).mono e4 h_p_bad
          have h_p_moves := ((rK (rO zI))).mono e4 h_p_moves
          have b2 := Same.trans b2 e4
          refine (show (_ : TS) _ ([some v_p_table, some (.int p_drivers), some v_p_bad, some v_p_moves, some (.int p_state), some v_p_pairs, none] : L2.St) _ from ?_)
          refine w_if (t_test (K := K) (e_cmp (p := fun i j => decide (j < i)) (e_len sq_K (EvN.evK (n_lc (S := (rP (rsC zI (rs1 zI)))) (i_list (e_KL (e_var (K := K) (i := 5) (R := (rK (rP (rsC zI (rs1 zI))))) (x := p_pairs) rfl h_p_pairs))) (fun _ h => nomatch h) (tg_name (i := 6) (R := (rP (rsC zI (rs1 zI))))) (by decide) (fun x5 vs5 G5 e5 hv5 => by
           obtain ⟨v5_p_pair, rfl, h5_p_pair⟩ := hv5
           exact ⟨(t_test (K := K) (e_in srI sq_K (e_proj (k := 1) (pjS pj1) (e_var (K := K) (i := 6) (R := (rP (rsC zI (rs1 zI)))) (x := x5) rfl h5_p_pair)) (e_var (K := K) (i := 2) (R := (rK zI)) (x := p_bad) rfl (((rK zI)).mono e5 h_p_bad)))), (e_var (K := K) (i := 6) (R := (rP (rsC zI (rs1 zI)))) (x := x5) rfl h5_p_pair)⟩)))) e_int)) hs hm (fun G6 H6 e6 hs hm => ?_) (fun G6 H6 e6 hs hm => ?_)
          · have h_p_table := ((rP (rsC zI (rsC zI (rs1 (rT (rT (rP (rsC zI (rs1 zI)))))))))).mono e6 h_p_table
            have h_p_bad := ((rK zI)).mono e6 h_p_bad
            have h_p_moves := ((rK (rO zI))).mono e6 h_p_moves
            have h_p_pairs := ((rK (rP (rsC zI (rs1 zI))))).mono e6 h_p_pairs
            have b2 := Same.trans b2 e6
            exact w_ret (K := K) (kr := Tn.rt) e_bl hs hm fun r v G2 H2 hs2 hr2 hq => E2.rt r v _ _ _ hs2 hr2 hq
          · have h_p_table := ((rP (rsC zI (rsC zI (rs1 (rT (rT (rP (rsC zI (rs1 zI)))))))))).mono e6 h_p_table
            have h_p_bad := ((rK zI)).mono e6 h_p_bad
            have h_p_moves := ((rK (rO zI))).mono e6 h_p_moves
            have h_p_pairs := ((rK (rP (rsC zI (rs1 zI))))).mono e6 h_p_pairs
            have b2 := Same.trans b2 e6
            refine nx_of ?_
            refine (show (_ : TS) _ ([some v_p_table, some (.int p_drivers), some v_p_bad, some v_p_moves, some (.int p_state), some v_p_pairs, none] : L2.St) _ from ?_)
            refine nx_of ?_
            refine (show (_ : TS) _ ([some v_p_table, some (.int p_drivers), some v_p_bad, some v_p_moves, some (.int p_state), some v_p_pairs, none] : L2.St) _ from ?_)
            exact E2.nx () _ _ _ _ _ b2 ⟨some (.int p_state), some v_p_pairs, rfl, rfl⟩ (Same.refl _) hs hm.out
        · have h_p_table := ((rP (rsC zI (rsC zI (rs1 (rT (rT (rP (rsC zI (rs1 zI)))))))))).mono e3 h_p_table
          have h_p_bad := ((rK zI)).mono e3 h_p_bad
          have h_p_moves := ((rK (rO zI))).mono e3 h_p_moves
          have b2 := Same.trans b2 e3
          refine nx_of ?_
          refine (show (_ : TS) _ ([some v_p_table, some (.int p_drivers), some v_p_bad, some v_p_moves, some (.int p_state), d_5, none] : L2.St) _ from ?_)
          exact E2.nx () _ _ _ _ _ b2 ⟨some (.int p_state), d_5, rfl, rfl⟩ (Same.refl _) hs hm.out
      · obtain ⟨d_4, d_5, rfl, rfl⟩ := w_
        have h_p_table := ((rP (rsC zI (rsC zI (rs1 (rT (rT (rP (rsC zI (rs1 zI)))))))))).mono e2 h_p_table
        have h_p_bad := ((rK zI)).mono e2 h_p_bad
        have h_p_moves := ((rK (rO zI))).mono e2 h_p_moves
        refine (show (_ : TS) _ ([some v_p_table, some (.int p_drivers), some v_p_bad, some v_p_moves, d_4, d_5, none] : L2.St) _ from ?_)
        try dsimp only at hm
        exact w_ret0 (K := K) e_bl hs hm fun r v G2 H2 hs2 hr2 hq => hq v G2 H2 hs2.fin hr2

theorem ok_law_lost {P : Program} {w : World} {K : PySem.W.Frag} {mg : Str → Option Value} {base : Heap} {cl : Nat → Addr} {fa : Addr} {fd : FuncData} (F : Fun K "_law_lost" "_law_lost" s_law_lost fa fd) (T : Txt K mg cl) (C_law_outcomes : Cal P w K mg base "_law_outcomes" 1 ["table", "drivers", "state", "move"] (spP K cl (rsC (rP (rsC zI (rsC zI (rs1 (rT (rT (rP (rsC zI (rs1 zI))))))))) (rsC zI (rsC zI (rs1 zI)))) (rK (rP (rsC zI (rs1 zI)))) (fun a => m_law_outcomes (a.1) (a.2.1) (a.2.2.1) (a.2.2.2)))) :
    FnOk P w K mg base (L2.CX P w) 2 fa fd ["table", "drivers", "bad", "rounds"] (spP K cl (rsC (rP (rsC zI (rsC zI (rs1 (rT (rT (rP (rsC zI (rs1 zI))))))))) (rsC zI (rsC (rK zI) (rs1 (rK (rO zI)))))) rB (fun a => m_law_lost (a.1) (a.2.1) (a.2.2.1) (a.2.2.2))) := by
  refine F.okX sc_law_lost (fun vs H Q E h => ?_) (fun cdv A outer s H vs Q E hr h => ?_)
  · obtain ⟨G, a, _, hS, _⟩ := h
    exact (lnC (lnC (lnC ln1))) _ _ _ _ hS
  · obtain ⟨G, ⟨p_table, p_drivers, p_bad, p_rounds⟩, hg, hS, hm⟩ := h
    obtain ⟨v_p_table, _, rfl, h_p_table, v_p_drivers, _, rfl, h_p_drivers, v_p_bad, _, rfl, h_p_bad, v_p_rounds, rfl, h_p_rounds⟩ := hS
    cases (show v_p_drivers = V.int p_drivers from h_p_drivers)
    have tk : Takes (cxOf (L2.CX P w) P w K mg base N_law_lost "_law_lost" (defScope s_law_lost) fa cdv A outer s H E) (fun cls d _ H => E cls d H) := takes_of rfl rfl rfl rfl
    refine ⟨_, (pss_cons (ps_if (PW.pt (pw_or (pt_cmpR op_ne (pe_callB (r := rLen K) call_len (by rfl) T.n_len b_len (pa_cons (pv 3) pa_nil)) (pe_callB (r := rLen K) call_len (by rfl) T.n_len b_len (pa_cons (pe_ix (r := rIxT K) ix_tup (pv 0) pe_int (fun _ _ => rfl)) pa_nil)) (nomark _)) (pw_or1 (pt_cmpR op_isN (pe_ix (r := rIxL K) ix_list (pv 3) pe_int (fun _ _ => rfl)) pe_non (nomark _))))) (pss_cons (ps_ret pe_bl)
     pss_nil) pss_nil)
     (pss_cons (ps_for (passes_of rfl) rfl (pi_range1 rfl T.n_range (pa_cons (pe_callB (r := rLen K) call_len (by rfl) T.n_len b_len (pa_cons (pv 3) pa_nil)) pa_nil)) (pg_name (i := 4) sc_law_lost.nd rfl (by first | exact Or.inl rfl | exact Or.inr rfl)) (pss_cons (ps_if (pt_cmpR op_notN (pe_ix (r := rIxL K) ix_list (pv 3) (pv 4) (fun _ _ => rfl)) pe_non (nomark _)) (pss_cons (ps_if (pt_cmpR op_lt (pe_ix (r := rIxL K) ix_list (pv 3) (pv 4) (fun _ _ => rfl)) pe_int (nomark _)) (pss_cons (ps_ret pe_bl)
     pss_nil) pss_nil)
     (pss_cons (ps_for (passes_of rfl) rfl (pi_range1 rfl T.n_range (pa_cons (pe_op op_shl pe_int (pv 1)) pa_nil)) (pg_name (i := 5) sc_law_lost.nd rfl (by first | exact Or.inl rfl | exact Or.inr rfl)) (pss_cons (ps_set (i := 6) sc_law_lost.nd rfl (by first | exact Or.inl rfl | exact Or.inr rfl) pe_int)
     (pss_cons (ps_for (passes_of rfl) rfl (pi_list (pe_call (E := E) C_law_outcomes.ok (hr.mono (by decide)) rfl C_law_outcomes.mgx C_law_outcomes.kp C_law_outcomes.bd .nil (passes_call tk (fun _ _ _ _ h => h)) (pa_cons (pv 0) (pa_cons (pv 1) (pa_cons (pv 4) (pa_cons (pv 5) pa_nil)))))) (show PG _ _ (gTup K 2 _) from pg_tup rfl (pgs_cons (pg_name (i := 7) sc_law_lost.nd rfl (by first | exact Or.inl rfl | exact Or.inr rfl)) (pgs_cons (pg_name (i := 8) sc_law_lost.nd rfl (by first | exact Or.inl rfl | exact Or.inr rfl)) pgs_nil))) (pss_cons (ps_if (PW.pt (pw_or (pt_cmpR (r := rIn K false) op_in_seq (pv 8) (pv 2) (by rfl)) (pw_or1 (PW.pt (pw_and (pt_cmpR op_notN (pe_ix (r := rIxL K) ix_list (pv 3) (pv 7) (fun _ _ => rfl)) pe_non (nomark _)) (pw_and1 (pt_cmpR op_lt (pe_ix (r := rIxL K) ix_list (pv 3) (pv 7) (fun _ _ => rfl)) (pe_ix (r := rIxL K) ix_list (pv 3) (pv 4) (fun _ _ => rfl)) (nomark _)))))))) (pss_cons (ps_set (i := 6) sc_law_lost.nd rfl (by first | exact Or.inl rfl | exact Or.inr rfl) (pe_op op_add (pv 6) pe_int))
     pss_nil) pss_nil)
     pss_nil))
     (pss_cons (ps_if (pt_cmpR op_eq (pv 6) pe_int (nomark _)) (pss_cons (ps_ret pe_bl)
     pss_nil) pss_nil)
     pss_nil))))
     pss_nil)) pss_nil)
     pss_nil))
     (pss_cons (ps_ret pe_bl)
     pss_nil))), ?_⟩
    have hs : Hs ⟨H, G, E, cl⟩ G [] H := Hs.start hg
    have hm := Wp.ofSp (G0 := G) hm
    dsimp only at hm
    unfold m_law_lost at hm
    refine (show (_ : TS) _ ([some v_p_table, some (.int p_drivers), some v_p_bad, some v_p_rounds, none, none, none, none, none] : L2.St) _ from ?_)
    refine w_if (t_or (t_test (K := K) (e_ne srI (e_len sq_K (e_var (K := K) (i := 3) (R := (rK (rO zI))) (x := p_rounds) rfl h_p_rounds)) (e_len sq_T (e_proj (k := 2) (pjS (pjS pj1)) (e_var (K := K) (i := 0) (R := (rP (rsC zI (rsC zI (rs1 (rT (rT (rP (rsC zI (rs1 zI)))))))))) (x := p_table) rfl h_p_table))))) (t_test (K := K) (e_isN (e_ixL (e_KL (e_var (K := K) (i := 3) (R := (rK (rO zI))) (x := p_rounds) rfl h_p_rounds)) e_int)))) hs hm (fun G1 H1 e1 hs hm => ?_) (fun G1 H1 e1 hs hm => ?_)
    · have h_p_table := ((rP (rsC zI (rsC zI (rs1 (rT (rT (rP (rsC zI (rs1 zI)))))))))).mono e1 h_p_table
      have h_p_bad := ((rK zI)).mono e1 h_p_bad
      have h_p_rounds := ((rK (rO zI))).mono e1 h_p_rounds
      exact w_ret0 (K := K) e_bl hs hm fun r v G2 H2 hs2 hr2 hq => hq v G2 H2 hs2.fin hr2
    · have h_p_table := ((rP (rsC zI (rsC zI (rs1 (rT (rT (rP (rsC zI (rs1 zI)))))))))).mono e1 h_p_table
      have h_p_bad := ((rK zI)).mono e1 h_p_bad
      have h_p_rounds := ((rK (rO zI))).mono e1 h_p_rounds
      refine nx_of ?_
      refine (show (_ : TS) _ ([some v_p_table, some (.int p_drivers), some v_p_bad, some v_p_rounds, none, none, none, none, none] : L2.St) _ from ?_)
      refine w_forB (K := K) (Rr := rB) (fun (_ : Unit) (σ : L2.St) (G : Hp) (O : Own) => ∃ (d_4 : Option V) (d_5 : Option V) (d_6 : Option V) (d_7 : Option V) (d_8 : Option V), σ = [some v_p_table, some (.int p_drivers), some v_p_bad, some v_p_rounds, d_4, d_5, d_6, d_7, d_8] ∧ O = []) (i_rng1 (e_len sq_K (e_var (K := K) (i := 3) (R := (rK (rO zI))) (x := p_rounds) rfl h_p_rounds))) (fun _ _ _ _ _ _ h => nomatch h) (tg_name (i := 4) (R := zI)) hs hm ⟨none, none, none, none, none, rfl, rfl⟩ (fun r v G2 O2 H2 hs2 hr2 hq => hq v G2 H2 hs2.fin hr2) (fun p_state s_ σ_ G1_2 G2 O_ H2 vv2 D2 Qb2 e2 w_ e12 hs hv2 E2 hm => ?_) (fun s_ σ_ G1_2 G2 O_ H2 e2 w_ e12 hs hm => ?_)
      · obtain ⟨d_4, d_5, d_6, d_7, d_8, rfl, rfl⟩ := w_
        have h_p_table := ((rP (rsC zI (rsC zI (rs1 (rT (rT (rP (rsC zI (rs1 zI)))))))))).mono e2 h_p_table
        have h_p_bad := ((rK zI)).mono e2 h_p_bad
        have h_p_rounds := ((rK (rO zI))).mono e2 h_p_rounds
        obtain ⟨v_p_state, rfl, h_p_state⟩ := hv2
        cases (show v_p_state = V.int p_state from h_p_state)
        have b2 := Same.refl G2
        refine (show (_ : TS) _ ([some v_p_table, some (.int p_drivers), some v_p_bad, some v_p_rounds, some (.int p_state), d_5, d_6, d_7, d_8] : L2.St) _ from ?_)
        unfold m_law_lost_b13 at hm
        try dsimp only at hm
        refine w_if (t_test (K := K) (e_notN (e_ixL (e_KL (e_var (K := K) (i := 3) (R := (rK (rO zI))) (x := p_rounds) rfl h_p_rounds)) (e_var (K := K) (i := 4) (R := zI) (x := p_state) rfl rfl)))) hs hm (fun G3 H3 e3 hs hm => ?_) (fun G3 H3 e3 hs hm => ?_)
        · have h_p_table := ((rP (rsC zI (rsC zI (rs1 (rT (rT (rP (rsC zI (rs1 zI)))))))))).mono e3 h_p_table
          have h_p_bad := ((rK zI)).mono e3 h_p_bad
          have h_p_rounds := ((rK (rO zI))).mono e3 h_p_rounds
          have b2 := Same.trans b2 e3
          refine w_if (t_test (K := K) (e_cmp (p := fun i j => decide (i < j)) (e_get (e_ixL (e_KL (e_var (K := K) (i := 3) (R := (rK (rO zI))) (x := p_rounds) rfl h_p_rounds)) (e_var (K := K) (i := 4) (R := zI) (x := p_state) rfl rfl))) e_int)) hs hm (fun G4 H4 e4 hs hm => ?_) (fun G4 H4 e4 hs hm => ?_)
          · have h_p_table := ((rP (rsC zI (rsC zI (rs1 (rT (rT (rP (rsC zI (rs1 zI)))))))))).mono e4 h_p_table
            have h_p_bad := ((rK zI)).mono e4 h_p_bad
            have h_p_rounds := ((rK (rO zI))).mono e4 h_p_rounds
            have b2 := Same.trans b2 e4
            exact w_ret (K := K) (kr := Tn.rt) e_bl hs hm fun r v G2 H2 hs2 hr2 hq => E2.rt r v _ _ _ hs2 hr2 hq
          · have h_p_table := ((rP (rsC zI (rsC zI (rs1 (rT (rT (rP (rsC zI (rs1 zI)))))))))).mono e4 h_p_table
            have h_p_bad := ((rK zI)).mono e4 h_p_bad
            have h_p_rounds := ((rK (rO zI))).mono e4 h_p_rounds
            have b2 := Same.trans b2 e4
            refine nx_of ?_
            refine (show (_ : TS) _ ([some v_p_table, some (.int p_drivers), some v_p_bad, some v_p_rounds, some (.int p_state), d_5, d_6, d_7, d_8] : L2.St) _ from ?_)
            refine w_forB (K := K) (Rr := rB) (fun (_ : Unit) (σ : L2.St) (G : Hp) (O : Own) => ∃ (d_5 : Option V) (d_6 : Option V) (d_7 : Option V) (d_8 : Option V), σ = [some v_p_table, some (.int p_drivers), some v_p_bad, some v_p_rounds, some (.int p_state), d_5, d_6, d_7, d_8] ∧ O = []) (i_rng1 (e_shl e_int (e_var (K := K) (i := 1) (R := zI) (x := p_drivers) rfl rfl))) (fun _ _ _ _ _ _ h => nomatch h) (tg_name (i := 5) (R := zI)) hs hm ⟨d_5, d_6, d_7, d_8, rfl, rfl⟩ (fun r v G2 O2 H2 hs2 hr2 hq => E2.rt r v _ _ _ hs2 hr2 hq) (fun p_move s_ σ_ G1_5 G5 O_ H5 vv5 D5 Qb5 e5 w_ e15 hs hv5 E5 hm => ?_) (fun s_ σ_ G1_5 G5 O_ H5 e5 w_ e15 hs hm => ?_)
            · obtain ⟨d_5, d_6, d_7, d_8, rfl, rfl⟩ := w_
              have h_p_table := ((rP (rsC zI (rsC zI (rs1 (rT (rT (rP (rsC zI (rs1 zI)))))))))).mono e5 h_p_table
              have h_p_bad := ((rK zI)).mono e5 h_p_bad
              have h_p_rounds := ((rK (rO zI))).mono e5 h_p_rounds
              obtain ⟨v_p_move, rfl, h_p_move⟩ := hv5
              cases (show v_p_move = V.int p_move from h_p_move)
              have b5 := Same.refl G5
              refine (show (_ : TS) _ ([some v_p_table, some (.int p_drivers), some v_p_bad, some v_p_rounds, some (.int p_state), some (.int p_move), d_6, d_7, d_8] : L2.St) _ from ?_)
              unfold m_law_lost_b12 at hm
              try dsimp only at hm
              refine w_asg (K := K) (tg_name (i := 6) (R := zI)) e_int hs hm (fun p_wins vv6 G6 H6 e6 hs hv6 hm => ?_)
              obtain ⟨v_p_wins, rfl, h_p_wins⟩ := hv6
              cases (show v_p_wins = V.int p_wins from h_p_wins)
              have h_p_table := ((rP (rsC zI (rsC zI (rs1 (rT (rT (rP (rsC zI (rs1 zI)))))))))).mono e6 h_p_table
              have h_p_bad := ((rK zI)).mono e6 h_p_bad
              have h_p_rounds := ((rK (rO zI))).mono e6 h_p_rounds
              have b5 := Same.trans b5 e6
              refine (show (_ : TS) _ ([some v_p_table, some (.int p_drivers), some v_p_bad, some v_p_rounds, some (.int p_state), some (.int p_move), some (.int p_wins), d_7, d_8] : L2.St) _ from ?_)
              refine w_forM (K := K) (fun (p_wins : Int) (σ : L2.St) (G : Hp) (O : Own) => ∃ (d_7 : Option V) (d_8 : Option V), σ = [some v_p_table, some (.int p_drivers), some v_p_bad, some v_p_rounds, some (.int p_state), some (.int p_move), some (.int p_wins), d_7, d_8] ∧ O = []) (i_list (e_KL (e_call (fm := ⟨H, G, E, cl⟩) (a_cons (e_var (K := K) (i := 0) (R := (rP (rsC zI (rsC zI (rs1 (rT (rT (rP (rsC zI (rs1 zI)))))))))) (x := p_table) rfl h_p_table) (a_cons (e_var (K := K) (i := 1) (R := zI) (x := p_drivers) rfl rfl) (a_cons (e_var (K := K) (i := 4) (R := zI) (x := p_state) rfl rfl) (a_one (e_var (K := K) (i := 5) (R := zI) (x := p_move) rfl rfl)))))))) (fun _ _ _ _ _ _ h => nomatch h) (tg_tup2) hs hm ⟨d_7, d_8, rfl, rfl⟩ (fun x7 p_wins σ_ G1_7 G7 O_ H7 vv7 D7 Qb7 e7 w_ e17 hs hv7 E7 hm => ?_) (fun p_wins σ_ G1_7 G7 O_ H7 e7 w_ e17 hs hm => ?_)
              · obtain ⟨d_7, d_8, rfl, rfl⟩ := w_
                have h_p_table := ((rP (rsC zI (rsC zI (rs1 (rT (rT (rP (rsC zI (rs1 zI)))))))))).mono e7 h_p_table
                have h_p_bad := ((rK zI)).mono e7 h_p_bad
                have h_p_rounds := ((rK (rO zI))).mono e7 h_p_rounds
                obtain ⟨p_target, p_answer⟩ := x7
                obtain ⟨v_p_target, _, rfl, h_p_target, v_p_answer, rfl, h_p_answer⟩ := hv7
                cases (show v_p_target = V.int p_target from h_p_target)
                cases (show v_p_answer = V.int p_answer from h_p_answer)
                have b7 := Same.refl G7
                refine (show (_ : TS) _ ([some v_p_table, some (.int p_drivers), some v_p_bad, some v_p_rounds, some (.int p_state), some (.int p_move), some (.int p_wins), some (.int p_target), some (.int p_answer)] : L2.St) _ from ?_)
                unfold m_law_lost_b11 at hm
                try dsimp only at hm
                refine w_if (t_or (t_test (K := K) (e_in srI sq_K (e_var (K := K) (i := 8) (R := zI) (x := p_answer) rfl rfl) (e_var (K := K) (i := 2) (R := (rK zI)) (x := p_bad) rfl h_p_bad))) (t_and (t_test (K := K) (e_notN (e_ixL (e_KL (e_var (K := K) (i := 3) (R := (rK (rO zI))) (x := p_rounds) rfl h_p_rounds)) (e_var (K := K) (i := 7) (R := zI) (x := p_target) rfl rfl)))) (t_test (K := K) (e_cmp (p := fun i j => decide (i < j)) (e_get (e_ixL (e_KL (e_var (K := K) (i := 3) (R := (rK (rO zI))) (x := p_rounds) rfl h_p_rounds)) (e_var (K := K) (i := 7) (R := zI) (x := p_target) rfl rfl))) (e_get (e_ixL (e_KL (e_var (K := K) (i := 3) (R := (rK (rO zI))) (x := p_rounds) rfl h_p_rounds)) (e_var (K := K) (i := 4) (R := zI) (x := p_state) rfl rfl))))))) hs hm (fun G8 H8 e8 hs hm => ?_) (fun G8 H8 e8 hs hm => ?_)
                · have h_p_table := ((rP (rsC zI (rsC zI (rs1 (rT (rT (rP (rsC zI (rs1 zI)))))))))).mono e8 h_p_table
                  have h_p_bad := ((rK zI)).mono e8 h_p_bad
                  have h_p_rounds := ((rK (rO zI))).mono e8 h_p_rounds
                  have b7 := Same.trans b7 e8
                  refine w_asg (K := K) (tg_name (i := 6) (R := zI)) (e_add (e_var (K := K) (i := 6) (R := zI) (x := p_wins) rfl rfl) e_int) hs hm (fun p_wins vv9 G9 H9 e9 hs hv9 hm => ?_)
                  obtain ⟨v_p_wins, rfl, h_p_wins⟩ := hv9
                  cases (show v_p_wins = V.int p_wins from h_p_wins)
                  have h_p_table := ((rP (rsC zI (rsC zI (rs1 (rT (rT (rP (rsC zI (rs1 zI)))))))))).mono e9 h_p_table
                  have h_p_bad := ((rK zI)).mono e9 h_p_bad
                  have h_p_rounds := ((rK (rO zI))).mono e9 h_p_rounds
                  have b7 := Same.trans b7 e9
                  refine (show (_ : TS) _ ([some v_p_table, some (.int p_drivers), some v_p_bad, some v_p_rounds, some (.int p_state), some (.int p_move), some (.int p_wins), some (.int p_target), some (.int p_answer)] : L2.St) _ from ?_)
                  refine nx_of ?_
                  refine (show (_ : TS) _ ([some v_p_table, some (.int p_drivers), some v_p_bad, some v_p_rounds, some (.int p_state), some (.int p_move), some (.int p_wins), some (.int p_target), some (.int p_answer)] : L2.St) _ from ?_)
                  exact E7.nx p_wins _ _ _ _ _ b7 ⟨some (.int p_target), some (.int p_answer), rfl, rfl⟩ (Same.refl _) hs hm.out
                · have h_p_table := ((rP (rsC zI (rsC zI (rs1 (rT (rT (rP (rsC zI (rs1 zI)))))))))).mono e8 h_p_table
                  have h_p_bad := ((rK zI)).mono e8 h_p_bad
                  have h_p_rounds := ((rK (rO zI))).mono e8 h_p_rounds
                  have b7 := Same.trans b7 e8
                  refine nx_of ?_
                  refine (show (_ : TS) _ ([some v_p_table, some (.int p_drivers), some v_p_bad, some v_p_rounds, some (.int p_state), some (.int p_move), some (.int p_wins), some (.int p_target), some (.int p_answer)] : L2.St) _ from ?_)
                  exact E7.nx p_wins _ _ _ _ _ b7 ⟨some (.int p_target), some (.int p_answer), rfl, rfl⟩ (Same.refl _) hs hm.out
              · obtain ⟨d_7, d_8, rfl, rfl⟩ := w_
                have h_p_table := ((rP (rsC zI (rsC zI (rs1 (rT (rT (rP (rsC zI (rs1 zI)))))))))).mono e7 h_p_table
                have h_p_bad := ((rK zI)).mono e7 h_p_bad
                have h_p_rounds := ((rK (rO zI))).mono e7 h_p_rounds
                have b5 := Same.trans b5 e7
                refine (show (_ : TS) _ ([some v_p_table, some (.int p_drivers), some v_p_bad, some v_p_rounds, some (.int p_state), some (.int p_move), some (.int p_wins), d_7, d_8] : L2.St) _ from ?_)
                try dsimp only at hm
                refine w_if (t_test (K := K) (e_eq srI (e_var (K := K) (i := 6) (R := zI) (x := p_wins) rfl rfl) e_int)) hs hm (fun G10 H10 e10 hs hm => ?_) (fun G10 H10 e10 hs hm => ?_)
                · have h_p_table := ((rP (rsC zI (rsC zI (rs1 (rT (rT (rP (rsC zI (rs1 zI)))))))))).mono e10 h_p_table
                  have h_p_bad := ((rK zI)).mono e10 h_p_bad
                  have h_p_rounds := ((rK (rO zI))).mono e10 h_p_rounds
                  have b5 := Same.trans b5 e10
                  exact w_ret (K := K) (kr := Tn.rt) e_bl hs hm fun r v G2 H2 hs2 hr2 hq => E5.rt r v _ _ _ hs2 hr2 hq
                · have h_p_table := ((rP (rsC zI (rsC zI (rs1 (rT (rT (rP (rsC zI (rs1 zI)))))))))).mono e10 h_p_table
                  have h_p_bad := ((rK zI)).mono e10 h_p_bad
                  have h_p_rounds := ((rK (rO zI))).mono e10 h_p_rounds
                  have b5 := Same.trans b5 e10
                  refine nx_of ?_
                  refine (show (_ : TS) _ ([some v_p_table, some (.int p_drivers), some v_p_bad, some v_p_rounds, some (.int p_state), some (.int p_move), some (.int p_wins), d_7, d_8] : L2.St) _ from ?_)
                  exact E5.nx () _ _ _ _ _ b5 ⟨some (.int p_move), some (.int p_wins), d_7, d_8, rfl, rfl⟩ (Same.refl _) hs hm.out
            · obtain ⟨d_5, d_6, d_7, d_8, rfl, rfl⟩ := w_
              have h_p_table := ((rP (rsC zI (rsC zI (rs1 (rT (rT (rP (rsC zI (rs1 zI)))))))))).mono e5 h_p_table
              have h_p_bad := ((rK zI)).mono e5 h_p_bad
              have h_p_rounds := ((rK (rO zI))).mono e5 h_p_rounds
              have b2 := Same.trans b2 e5
              refine (show (_ : TS) _ ([some v_p_table, some (.int p_drivers), some v_p_bad, some v_p_rounds, some (.int p_state), d_5, d_6, d_7, d_8] : L2.St) _ from ?_)
              try dsimp only at hm
              refine nx_of ?_
              refine (show (_ : TS) _ ([some v_p_table, some (.int p_drivers), some v_p_bad, some v_p_rounds, some (.int p_state), d_5, d_6, d_7, d_8] : L2.St) _ from ?_)
              exact E2.nx () _ _ _ _ _ b2 ⟨some (.int p_state), d_5, d_6, d_7, d_8, rfl, rfl⟩ (Same.refl _) hs hm.out
        · have h_p_table := ((rP (rsC zI (rsC zI (rs1 (rT (rT (rP (rsC zI (rs1 zI)))))))))).mono e3 h_p_table
          have h_p_bad := ((rK zI)).mono e3 h_p_bad
          have h_p_rounds := ((rK (rO zI))).mono e3 h_p_rounds
          have b2 := Same.trans b2 e3
          refine nx_of ?_
          refine (show (_ : TS) _ ([some v_p_table, some (.int p_drivers), some v_p_bad, some v_p_rounds, some (.int p_state), d_5, d_6, d_7, d_8] : L2.St) _ from ?_)
          exact E2.nx () _ _ _ _ _ b2 ⟨some (.int p_state), d_5, d_6, d_7, d_8, rfl, rfl⟩ (Same.refl _) hs hm.out
      · obtain ⟨d_4, d_5, d_6, d_7, d_8, rfl, rfl⟩ := w_
        have h_p_table := ((rP (rsC zI (rsC zI (rs1 (rT (rT (rP (rsC zI (rs1 zI)))))))))).mono e2 h_p_table
        have h_p_bad := ((rK zI)).mono e2 h_p_bad
        have h_p_rounds := ((rK (rO zI))).mono e2 h_p_rounds
        refine (show (_ : TS) _ ([some v_p_table, some (.int p_drivers), some v_p_bad, some v_p_rounds, d_4, d_5, d_6, d_7, d_8] : L2.St) _ from ?_)
        try dsimp only at hm
        exact w_ret0 (K := K) e_bl hs hm fun r v G2 H2 hs2 hr2 hq => hq v G2 H2 hs2.fin hr2

theorem ok_law_driven {P : Program} {w : World} {K : PySem.W.Frag} {mg : Str → Option Value} {base : Heap} {cl : Nat → Addr} {fa : Addr} {fd : FuncData} (F : Fun K "_law_driven" "_law_driven" s_law_driven fa fd) (T : Txt K mg cl) (C_law_outcomes : Cal P w K mg base "_law_outcomes" 1 ["table", "drivers", "state", "move"] (spP K cl (rsC (rP (rsC zI (rsC zI (rs1 (rT (rT (rP (rsC zI (rs1 zI))))))))) (rsC zI (rsC zI (rs1 zI)))) (rK (rP (rsC zI (rs1 zI)))) (fun a => m_law_outcomes (a.1) (a.2.1) (a.2.2.1) (a.2.2.2)))) :
    FnOk P w K mg base (L2.CX P w) 2 fa fd ["table", "drivers", "moves"] (spP K cl (rsC (rP (rsC zI (rsC zI (rs1 (rT (rT (rP (rsC zI (rs1 zI))))))))) (rsC zI (rs1 (rK (rO zI))))) (rP (rsC zI (rsC zI (rs1 (rT (rT (rP (rsC zI (rs1 zI))))))))) (fun a => m_law_driven (a.1) (a.2.1) (a.2.2))) := by
  refine F.okX sc_law_driven (fun vs H Q E h => ?_) (fun cdv A outer s H vs Q E hr h => ?_)
  · obtain ⟨G, a, _, hS, _⟩ := h
    exact (lnC (lnC ln1)) _ _ _ _ hS
  · obtain ⟨G, ⟨p_table, p_drivers, p_moves⟩, hg, hS, hm⟩ := h
    obtain ⟨v_p_table, _, rfl, h_p_table, v_p_drivers, _, rfl, h_p_drivers, v_p_moves, rfl, h_p_moves⟩ := hS
    cases (show v_p_drivers = V.int p_drivers from h_p_drivers)
    have tk : Takes (cxOf (L2.CX P w) P w K mg base N_law_driven "_law_driven" (defScope s_law_driven) fa cdv A outer s H E) (fun cls d _ H => E cls d H) := takes_of rfl rfl rfl rfl
    refine ⟨_, (pss_cons (ps_set (i := 4) sc_law_driven.nd rfl (by first | exact Or.inl rfl | exact Or.inr rfl) (pe_lc (own := [("state", 3)]) rfl sc_law_driven.nd (pi_range1 rfl T.n_range (pa_cons (pe_callB (r := rLen K) call_len (by rfl) T.n_len b_len (pa_cons (pv 2) pa_nil)) pa_nil)) (blkOk_by (own := [("state", 3)]) (N := N_law_driven) (sc := defScope s_law_driven) (by decide +kernel)) (fun _ _ _ _ _ => (pg_name (i := 3) sc_law_driven.nd rfl (by first | exact Or.inl rfl | exact Or.inr rfl))) (fun _ _ _ _ _ => (pts_one (pt_cmpR op_notN (pe_ix (r := rIxL K) ix_list (pv 2) (pv 3) (fun _ _ => rfl)) pe_non (nomark _)))) (fun _ _ _ _ _ => (pv 3))))
     (pss_cons (ps_set (i := 5) sc_law_driven.nd rfl (by first | exact Or.inl rfl | exact Or.inr rfl) (pe_lst pa_nil))
     (pss_cons (ps_for (passes_of rfl) rfl (pi_list (pv 4)) (pg_name (i := 3) sc_law_driven.nd rfl (by first | exact Or.inl rfl | exact Or.inr rfl)) (pss_cons (ps_set (i := 6) sc_law_driven.nd rfl (by first | exact Or.inl rfl | exact Or.inr rfl) (pe_call (E := E) C_law_outcomes.ok (hr.mono (by decide)) rfl C_law_outcomes.mgx C_law_outcomes.kp C_law_outcomes.bd .nil (passes_call tk (fun _ _ _ _ h => h)) (pa_cons (pv 0) (pa_cons (pv 1) (pa_cons (pv 3) (pa_cons (pe_ix (r := rIxL K) ix_list (pv 2) (pv 3) (fun _ _ => rfl)) pa_nil))))))
     (pss_cons (ps_expr (pe_bm PySem.F.plainAttrs_list PySem.F.slot_list_append PySem.F.type_list_append mt_append (pv 5) (pa_cons (pe_callTy (r := rTu K) call_tuple_of (by rfl) T.n_tuple b_tuple (pa_cons (pe_lc (own := [("pair", 7)]) rfl sc_law_driven.nd (pi_list (pv 6)) (blkOk_by (own := [("pair", 7)]) (N := N_law_driven) (sc := defScope s_law_driven) (by decide +kernel)) (fun _ _ _ _ _ => (pg_name (i := 7) sc_law_driven.nd rfl (by first | exact Or.inl rfl | exact Or.inr rfl))) (fun _ _ _ _ _ => pts_nil) (fun _ _ _ _ _ => (pe_tup (pa_cons (show PE _ _ (tBM K "list" (rIndex K) _ _) from pe_bm PySem.F.plainAttrs_list PySem.F.slot_list_index PySem.F.type_list_index mt_index (pv 4) (pa_cons (pe_ix (r := rIxT K) ix_tup (pv 7) pe_int (fun _ _ => rfl)) pa_nil)) (pa_cons (pe_ix (r := rIxT K) ix_tup (pv 7) pe_int (fun _ _ => rfl)) pa_nil))))) pa_nil)) pa_nil)))
     pss_nil)))
     (pss_cons (ps_ret (pe_tup (pa_cons (pe_op op_sub (pe_ix (r := rIxT K) ix_tup (pv 0) pe_int (fun _ _ => rfl)) (pv 1)) (pa_cons (pe_ix (r := rIxT K) ix_tup (pv 0) pe_int (fun _ _ => rfl)) (pa_cons (pe_callTy (r := rTu K) call_tuple_of (by rfl) T.n_tuple b_tuple (pa_cons (pv 5) pa_nil)) pa_nil)))))
     pss_nil)))), ?_⟩
    have hs : Hs ⟨H, G, E, cl⟩ G [] H := Hs.start hg
    have hm := Wp.ofSp (G0 := G) hm
    dsimp only at hm
    unfold m_law_driven at hm
    refine (show (_ : TS) _ ([some v_p_table, some (.int p_drivers), some v_p_moves, none, none, none, none, none] : L2.St) _ from ?_)
    refine w_asg (K := K) (tg_name (i := 4) (R := (rK zI))) (EvN.evK (n_lc (S := zI) (i_rng1 (e_len sq_K (e_var (K := K) (i := 2) (R := (rK (rO zI))) (x := p_moves) rfl h_p_moves))) (fun _ h => nomatch h) (tg_name (i := 3) (R := zI)) (by decide) (fun x1 vs1 G1 e1 hv1 => by
     obtain ⟨v1_p_state, rfl, h1_p_state⟩ := hv1
     exact ⟨(t_test (K := K) (e_notN (e_ixL (e_KL (e_var (K := K) (i := 2) (R := (rK (rO zI))) (x := p_moves) rfl (((rK (rO zI))).mono e1 h_p_moves))) (e_var (K := K) (i := 3) (R := zI) (x := x1) rfl h1_p_state)))), (e_var (K := K) (i := 3) (R := zI) (x := x1) rfl h1_p_state)⟩))) hs hm (fun p_left vv2 G2 H2 e2 hs hv2 hm => ?_)
    obtain ⟨v_p_left, rfl, h_p_left⟩ := hv2
    have h_p_table := ((rP (rsC zI (rsC zI (rs1 (rT (rT (rP (rsC zI (rs1 zI)))))))))).mono e2 h_p_table
    have h_p_moves := ((rK (rO zI))).mono e2 h_p_moves
    refine (show (_ : TS) _ ([some v_p_table, some (.int p_drivers), some v_p_moves, none, some v_p_left, none, none, none] : L2.St) _ from ?_)
    refine w_asgN (K := K) (R := (rT (rP (rsC zI (rs1 zI))))) (i := 5) (e_lst l_nil (by decide)) hs hm (fun p_rows l_p_rows vs_p_rows G3 H3 e3 hs h3 hm => ?_)
    have h_p_table := ((rP (rsC zI (rsC zI (rs1 (rT (rT (rP (rsC zI (rs1 zI)))))))))).mono e3 h_p_table
    have h_p_moves := ((rK (rO zI))).mono e3 h_p_moves
    have h_p_left := ((rK zI)).mono e3 h_p_left
    have h_p_rows := h3
    refine (show (_ : TS) _ ([some v_p_table, some (.int p_drivers), some v_p_moves, none, some v_p_left, some (.ref l_p_rows), none, none] : L2.St) _ from ?_)
    refine w_forM (K := K) (fun (p_rows : (List (List (Int × Int)))) (σ : L2.St) (G : Hp) (O : Own) => ∃ (l_p_rows : Addr) (vs_p_rows : List V) (d_3 : Option V) (d_6 : Option V), σ = [some v_p_table, some (.int p_drivers), some v_p_moves, d_3, some v_p_left, some (.ref l_p_rows), d_6, none] ∧ O = [(l_p_rows, .lst vs_p_rows)] ∧ RLs (rT (rP (rsC zI (rs1 zI)))) K G vs_p_rows p_rows) (i_list (e_KL (e_var (K := K) (i := 4) (R := (rK zI)) (x := p_left) rfl h_p_left))) (fun _ _ _ _ _ _ h => nomatch h) (tg_name (i := 3) (R := zI)) hs hm ⟨l_p_rows, vs_p_rows, none, none, rfl, rfl, h_p_rows⟩ (fun p_state p_rows σ_ G1_4 G4 O_ H4 vv4 D4 Qb4 e4 w_ e14 hs hv4 E4 hm => ?_) (fun p_rows σ_ G1_4 G4 O_ H4 e4 w_ e14 hs hm => ?_)
    · obtain ⟨l_p_rows, vs_p_rows, d_3, d_6, rfl, rfl, h_p_rows⟩ := w_
      have h_p_table := ((rP (rsC zI (rsC zI (rs1 (rT (rT (rP (rsC zI (rs1 zI)))))))))).mono e4 h_p_table
      have h_p_moves := ((rK (rO zI))).mono e4 h_p_moves
      have h_p_left := ((rK zI)).mono e4 h_p_left
      have h_p_rows := RLs.mono e14 h_p_rows
      obtain ⟨v_p_state, rfl, h_p_state⟩ := hv4
      cases (show v_p_state = V.int p_state from h_p_state)
      have b4 := Same.refl G4
      refine (show (_ : TS) _ ([some v_p_table, some (.int p_drivers), some v_p_moves, some (.int p_state), some v_p_left, some (.ref l_p_rows), d_6, none] : L2.St) _ from ?_)
      unfold m_law_driven_b9 at hm
      try dsimp only at hm
      refine w_asg (K := K) (tg_name (i := 6) (R := (rK (rP (rsC zI (rs1 zI)))))) (e_call (fm := ⟨H, G, E, cl⟩) (a_cons (e_var (K := K) (i := 0) (R := (rP (rsC zI (rsC zI (rs1 (rT (rT (rP (rsC zI (rs1 zI)))))))))) (x := p_table) rfl h_p_table) (a_cons (e_var (K := K) (i := 1) (R := zI) (x := p_drivers) rfl rfl) (a_cons (e_var (K := K) (i := 3) (R := zI) (x := p_state) rfl rfl) (a_one (e_get (e_ixL (e_KL (e_var (K := K) (i := 2) (R := (rK (rO zI))) (x := p_moves) rfl h_p_moves)) (e_var (K := K) (i := 3) (R := zI) (x := p_state) rfl rfl)))))))) hs hm (fun p_pairs vv5 G5 H5 e5 hs hv5 hm => ?_)
      obtain ⟨v_p_pairs, rfl, h_p_pairs⟩ := hv5
      have h_p_table := ((rP (rsC zI (rsC zI (rs1 (rT (rT (rP (rsC zI (rs1 zI)))))))))).mono e5 h_p_table
      have h_p_moves := ((rK (rO zI))).mono e5 h_p_moves
      have h_p_left := ((rK zI)).mono e5 h_p_left
      have h_p_rows := RLs.mono e5 h_p_rows
      have b4 := Same.trans b4 e5
      refine (show (_ : TS) _ ([some v_p_table, some (.int p_drivers), some v_p_moves, some (.int p_state), some v_p_left, some (.ref l_p_rows), some v_p_pairs, none] : L2.St) _ from ?_)
      refine w_app (K := K) (i := 5) 0 (xs := p_rows) rfl rfl h_p_rows (e_tupleL (e_KL (EvN.evK (n_lc (S := (rP (rsC zI (rs1 zI)))) (i_list (e_KL (e_var (K := K) (i := 6) (R := (rK (rP (rsC zI (rs1 zI))))) (x := p_pairs) rfl h_p_pairs))) (fun _ h => nomatch h) (tg_name (i := 7) (R := (rP (rsC zI (rs1 zI))))) (by decide) (fun x6 vs6 G6 e6 hv6 => by
       obtain ⟨v6_p_pair, rfl, h6_p_pair⟩ := hv6
       exact ⟨t_yes, (e_tup (lnC ln1) (a_cons (e_index srI (e_KL (e_var (K := K) (i := 4) (R := (rK zI)) (x := p_left) rfl (((rK zI)).mono e6 h_p_left))) (e_proj (k := 0) pj0 (e_var (K := K) (i := 7) (R := (rP (rsC zI (rs1 zI)))) (x := x6) rfl h6_p_pair))) (a_one (e_proj (k := 1) (pjS pj1) (e_var (K := K) (i := 7) (R := (rP (rsC zI (rs1 zI)))) (x := x6) rfl h6_p_pair)))) (by decide))⟩))))) hs hm (fun y7 w7 G7 H7 e7 hs h7 hm => ?_)
      have h_p_table := ((rP (rsC zI (rsC zI (rs1 (rT (rT (rP (rsC zI (rs1 zI)))))))))).mono e7 h_p_table
      have h_p_moves := ((rK (rO zI))).mono e7 h_p_moves
      have h_p_left := ((rK zI)).mono e7 h_p_left
      have h_p_pairs := ((rK (rP (rsC zI (rs1 zI))))).mono e7 h_p_pairs
      have b4 := Same.trans b4 e7
      have h_p_rows := h7
      generalize p_rows ++ [y7] = p_rows at hm h_p_rows
      generalize vs_p_rows ++ [w7] = vs_p_rows at hs h_p_rows
      exact E4.nx p_rows _ _ _ _ _ b4 ⟨l_p_rows, vs_p_rows, some (.int p_state), some v_p_pairs, rfl, rfl, h_p_rows⟩ (Same.refl _) hs hm.out
    · obtain ⟨l_p_rows, vs_p_rows, d_3, d_6, rfl, rfl, h_p_rows⟩ := w_
      have h_p_table := ((rP (rsC zI (rsC zI (rs1 (rT (rT (rP (rsC zI (rs1 zI)))))))))).mono e4 h_p_table
      have h_p_moves := ((rK (rO zI))).mono e4 h_p_moves
      have h_p_left := ((rK zI)).mono e4 h_p_left
      have h_p_rows := RLs.mono e14 h_p_rows
      refine (show (_ : TS) _ ([some v_p_table, some (.int p_drivers), some v_p_moves, d_3, some v_p_left, some (.ref l_p_rows), d_6, none] : L2.St) _ from ?_)
      try dsimp only at hm
      have ng8 := (hs.at 0 rfl).2.1
      have eg8 := same_new (o := HO.lst vs_p_rows) ng8
      have hs := hs.give 0 rfl
      have h_p_rows : (rK (rT (rP (rsC zI (rs1 zI))))).r K _ (.ref l_p_rows) p_rows := ⟨l_p_rows, vs_p_rows, rfl, upd_same, RLs.mono eg8 h_p_rows⟩
      have h_p_table := ((rP (rsC zI (rsC zI (rs1 (rT (rT (rP (rsC zI (rs1 zI)))))))))).mono eg8 h_p_table
      have h_p_moves := ((rK (rO zI))).mono eg8 h_p_moves
      have h_p_left := ((rK zI)).mono eg8 h_p_left
      exact w_ret0 (K := K) (e_tup (lnC (lnC ln1)) (a_cons (e_sub (e_proj (k := 0) pj0 (e_var (K := K) (i := 0) (R := (rP (rsC zI (rsC zI (rs1 (rT (rT (rP (rsC zI (rs1 zI)))))))))) (x := p_table) rfl h_p_table)) (e_var (K := K) (i := 1) (R := zI) (x := p_drivers) rfl rfl)) (a_cons (e_proj (k := 1) (pjS pj0) (e_var (K := K) (i := 0) (R := (rP (rsC zI (rsC zI (rs1 (rT (rT (rP (rsC zI (rs1 zI)))))))))) (x := p_table) rfl h_p_table)) (a_one (e_tupleL (e_KL (e_var (K := K) (i := 5) (R := (rK (rT (rP (rsC zI (rs1 zI)))))) (x := p_rows) rfl h_p_rows)))))) (by decide)) hs hm fun r v G2 H2 hs2 hr2 hq => hq v G2 H2 hs2.fin hr2

theorem ok_law_changed {P : Program} {w : World} {K : PySem.W.Frag} {mg : Str → Option Value} {base : Heap} {cl : Nat → Addr} {fa : Addr} {fd : FuncData} (F : Fun K "_law_changed" "_law_changed" s_law_changed fa fd) (T : Txt K mg cl)  :
    FnOk P w K mg base (L2.CX P w) 1 fa fd ["numbers", "which", "place", "one"] (spP K cl (rsC (rK (rO zI)) (rsC zI (rsC zI (rs1 zI)))) (rK (rO zI)) (fun a => m_law_changed (a.1) (a.2.1) (a.2.2.1) (a.2.2.2))) := by
  refine F.okX sc_law_changed (fun vs H Q E h => ?_) (fun cdv A outer s H vs Q E hr h => ?_)
  · obtain ⟨G, a, _, hS, _⟩ := h
    exact (lnC (lnC (lnC ln1))) _ _ _ _ hS
  · obtain ⟨G, ⟨p_numbers, p_which, p_place, p_one⟩, hg, hS, hm⟩ := h
    obtain ⟨v_p_numbers, _, rfl, h_p_numbers, v_p_which, _, rfl, h_p_which, v_p_place, _, rfl, h_p_place, v_p_one, rfl, h_p_one⟩ := hS
    cases (show v_p_which = V.int p_which from h_p_which)
    cases (show v_p_place = V.int p_place from h_p_place)
    cases (show v_p_one = V.int p_one from h_p_one)
    refine ⟨_, (pss_cons (ps_set (i := 4) sc_law_changed.nd rfl (by first | exact Or.inl rfl | exact Or.inr rfl) (pe_callTy (r := rLi K) call_list_of (by rfl) T.n_list b_list (pa_cons (pv 0) pa_nil)))
     (pss_cons (ps_set (i := 5) sc_law_changed.nd rfl (by first | exact Or.inl rfl | exact Or.inr rfl) (pe_op op_mod (pe_callTy call_int1 (by rfl) T.n_int b_int (pa_cons (pv 2) pa_nil)) (pe_callB (r := rLen K) call_len (by rfl) T.n_len b_len (pa_cons (pv 4) pa_nil))))
     (pss_cons (ps_if (pt_cmpR op_eq (pv 1) pe_int (nomark _)) (pss_cons (ps_asg (pv 3) (pg_sub (pv 4) (pv 5) set_list))
     pss_nil) pss_nil)
     (pss_cons (ps_if (pt_cmpR op_eq (pv 1) pe_int (nomark _)) (pss_cons (ps_asg pe_non (pg_sub (pv 4) (pv 5) set_list))
     pss_nil) pss_nil)
     (pss_cons (ps_if (pt_cmpR op_eq (pv 1) pe_int (nomark _)) (pss_cons (ps_asg pe_non (pg_sub (pv 4) pe_int set_list))
     pss_nil) pss_nil)
     (pss_cons (ps_if (pt_cmpR op_eq (pv 1) pe_int (nomark _)) (pss_cons (ps_ret (pe_slice (r := rSlL K) sl_list (pv 4) po_none (po_some (pe_un un_neg pe_int))))
     pss_nil) pss_nil)
     (pss_cons (ps_if (pt_cmpR op_eq (pv 1) pe_int (nomark _)) (pss_cons (ps_ret (pe_op op_cat (pv 4) (pe_lst (pa_cons (pv 3) pa_nil))))
     pss_nil) pss_nil)
     (pss_cons (ps_if (pt_cmpR op_eq (pv 1) pe_int (nomark _)) (pss_cons (ps_asg (pe_un un_neg pe_int) (pg_sub (pv 4) (pv 5) set_list))
     pss_nil) pss_nil)
     (pss_cons (ps_ret (pv 4))
     pss_nil))))))))), ?_⟩
    have hs : Hs ⟨H, G, E, cl⟩ G [] H := Hs.start hg
    have hm := Wp.ofSp (G0 := G) hm
    dsimp only at hm
    unfold m_law_changed at hm
    refine (show (_ : TS) _ ([some v_p_numbers, some (.int p_which), some (.int p_place), some (.int p_one), none, none] : L2.St) _ from ?_)
    refine w_asgN (K := K) (R := (rO zI)) (i := 4) (n_list sq_K (e_var (K := K) (i := 0) (R := (rK (rO zI))) (x := p_numbers) rfl h_p_numbers)) hs hm (fun p_told l_p_told vs_p_told G1 H1 e1 hs h1 hm => ?_)
    have h_p_numbers := ((rK (rO zI))).mono e1 h_p_numbers
    have h_p_told := h1
    refine (show (_ : TS) _ ([some v_p_numbers, some (.int p_which), some (.int p_place), some (.int p_one), some (.ref l_p_told), none] : L2.St) _ from ?_)
    refine w_asg (K := K) (tg_name (i := 5) (R := zI)) (e_mod (e_intI (e_var (K := K) (i := 2) (R := zI) (x := p_place) rfl rfl)) (e_lenO (i := 4) (l := l_p_told) rfl (List.mem_of_getElem? (i := 0) rfl) h_p_told)) hs hm (fun p_at vv2 G2 H2 e2 hs hv2 hm => ?_)
    obtain ⟨v_p_at, rfl, h_p_at⟩ := hv2
    cases (show v_p_at = V.int p_at from h_p_at)
    have h_p_numbers := ((rK (rO zI))).mono e2 h_p_numbers
    have h_p_told := RLs.mono e2 h_p_told
    refine (show (_ : TS) _ ([some v_p_numbers, some (.int p_which), some (.int p_place), some (.int p_one), some (.ref l_p_told), some (.int p_at)] : L2.St) _ from ?_)
    refine w_ifJ (k := fun s_ => (m_law_changed_j4 p_which p_one p_at s_)) (fun (p_told : (List (Option Int))) (σ : L2.St) (G : Hp) (O : Own) => ∃ (l_p_told : Addr) (vs_p_told : List V), σ = [some v_p_numbers, some (.int p_which), some (.int p_place), some (.int p_one), some (.ref l_p_told), some (.int p_at)] ∧ O = [(l_p_told, .lst vs_p_told)] ∧ RLs (rO zI) K G vs_p_told p_told) (t_test (K := K) (e_eq srI (e_var (K := K) (i := 1) (R := zI) (x := p_which) rfl rfl) e_int)) hs hm (fun p_told σ_ G1_3 G3 O_ H3 e3 w_ e13 hs hm => ?_) (fun G3 H3 J3 e3 hs hm => ?_) (fun G3 H3 J3 e3 hs hm => ?_)
    · obtain ⟨l_p_told, vs_p_told, rfl, rfl, h_p_told⟩ := w_
      have h_p_numbers := ((rK (rO zI))).mono e3 h_p_numbers
      have h_p_told := RLs.mono e13 h_p_told
      refine (show (_ : TS) _ ([some v_p_numbers, some (.int p_which), some (.int p_place), some (.int p_one), some (.ref l_p_told), some (.int p_at)] : L2.St) _ from ?_)
      unfold m_law_changed_j4 at hm
      try dsimp only at hm
      refine w_ifJ (k := fun s_ => (m_law_changed_j6 p_which p_one p_at s_)) (fun (p_told : (List (Option Int))) (σ : L2.St) (G : Hp) (O : Own) => ∃ (l_p_told : Addr) (vs_p_told : List V), σ = [some v_p_numbers, some (.int p_which), some (.int p_place), some (.int p_one), some (.ref l_p_told), some (.int p_at)] ∧ O = [(l_p_told, .lst vs_p_told)] ∧ RLs (rO zI) K G vs_p_told p_told) (t_test (K := K) (e_eq srI (e_var (K := K) (i := 1) (R := zI) (x := p_which) rfl rfl) e_int)) hs hm (fun p_told σ_ G1_5 G5 O_ H5 e5 w_ e15 hs hm => ?_) (fun G5 H5 J5 e5 hs hm => ?_) (fun G5 H5 J5 e5 hs hm => ?_)
      · obtain ⟨l_p_told, vs_p_told, rfl, rfl, h_p_told⟩ := w_
        have h_p_numbers := ((rK (rO zI))).mono e5 h_p_numbers
        have h_p_told := RLs.mono e15 h_p_told
        refine (show (_ : TS) _ ([some v_p_numbers, some (.int p_which), some (.int p_place), some (.int p_one), some (.ref l_p_told), some (.int p_at)] : L2.St) _ from ?_)
        unfold m_law_changed_j6 at hm
        try dsimp only at hm
        refine w_ifJ (k := fun s_ => (m_law_changed_j8 p_which p_one p_at s_)) (fun (p_told : (List (Option Int))) (σ : L2.St) (G : Hp) (O : Own) => ∃ (l_p_told : Addr) (vs_p_told : List V), σ = [some v_p_numbers, some (.int p_which), some (.int p_place), some (.int p_one), some (.ref l_p_told), some (.int p_at)] ∧ O = [(l_p_told, .lst vs_p_told)] ∧ RLs (rO zI) K G vs_p_told p_told) (t_test (K := K) (e_eq srI (e_var (K := K) (i := 1) (R := zI) (x := p_which) rfl rfl) e_int)) hs hm (fun p_told σ_ G1_7 G7 O_ H7 e7 w_ e17 hs hm => ?_) (fun G7 H7 J7 e7 hs hm => ?_) (fun G7 H7 J7 e7 hs hm => ?_)
        · obtain ⟨l_p_told, vs_p_told, rfl, rfl, h_p_told⟩ := w_
          have h_p_numbers := ((rK (rO zI))).mono e7 h_p_numbers
          have h_p_told := RLs.mono e17 h_p_told
          refine (show (_ : TS) _ ([some v_p_numbers, some (.int p_which), some (.int p_place), some (.int p_one), some (.ref l_p_told), some (.int p_at)] : L2.St) _ from ?_)
          unfold m_law_changed_j8 at hm
          try dsimp only at hm
          refine w_if (t_test (K := K) (e_eq srI (e_var (K := K) (i := 1) (R := zI) (x := p_which) rfl rfl) e_int)) hs hm (fun G9 H9 e9 hs hm => ?_) (fun G9 H9 e9 hs hm => ?_)
          · have h_p_numbers := ((rK (rO zI))).mono e9 h_p_numbers
            have h_p_told := RLs.mono e9 h_p_told
            have ng10 := (hs.at 0 rfl).2.1
            have eg10 := same_new (o := HO.lst vs_p_told) ng10
            have hs := hs.give 0 rfl
            have h_p_told : (rK (rO zI)).r K _ (.ref l_p_told) p_told := ⟨l_p_told, vs_p_told, rfl, upd_same, RLs.mono eg10 h_p_told⟩
            have h_p_numbers := ((rK (rO zI))).mono eg10 h_p_numbers
            exact w_ret0 (K := K) (EvN.evK (n_slice (e_KL (e_var (K := K) (i := 4) (R := (rK (rO zI))) (x := p_told) rfl h_p_told)) o_none (o_some (K := K) (e_neg e_int)))) hs hm fun r v G2 H2 hs2 hr2 hq => hq v G2 H2 hs2.fin hr2
          · have h_p_numbers := ((rK (rO zI))).mono e9 h_p_numbers
            have h_p_told := RLs.mono e9 h_p_told
            refine nx_of ?_
            refine (show (_ : TS) _ ([some v_p_numbers, some (.int p_which), some (.int p_place), some (.int p_one), some (.ref l_p_told), some (.int p_at)] : L2.St) _ from ?_)
            refine w_if (t_test (K := K) (e_eq srI (e_var (K := K) (i := 1) (R := zI) (x := p_which) rfl rfl) e_int)) hs hm (fun G11 H11 e11 hs hm => ?_) (fun G11 H11 e11 hs hm => ?_)
            · have h_p_numbers := ((rK (rO zI))).mono e11 h_p_numbers
              have h_p_told := RLs.mono e11 h_p_told
              have ng12 := (hs.at 0 rfl).2.1
              have eg12 := same_new (o := HO.lst vs_p_told) ng12
              have hs := hs.give 0 rfl
              have h_p_told : (rK (rO zI)).r K _ (.ref l_p_told) p_told := ⟨l_p_told, vs_p_told, rfl, upd_same, RLs.mono eg12 h_p_told⟩
              have h_p_numbers := ((rK (rO zI))).mono eg12 h_p_numbers
              exact w_ret0 (K := K) (EvN.evK (n_cat (e_var (K := K) (i := 4) (R := (rK (rO zI))) (x := p_told) rfl h_p_told) (EvN.evK (e_lst (l_cons (e_some nn_I (e_var (K := K) (i := 3) (R := zI) (x := p_one) rfl rfl)) l_nil) (by decide))))) hs hm fun r v G2 H2 hs2 hr2 hq => hq v G2 H2 hs2.fin hr2
            · have h_p_numbers := ((rK (rO zI))).mono e11 h_p_numbers
              have h_p_told := RLs.mono e11 h_p_told
              refine nx_of ?_
              refine (show (_ : TS) _ ([some v_p_numbers, some (.int p_which), some (.int p_place), some (.int p_one), some (.ref l_p_told), some (.int p_at)] : L2.St) _ from ?_)
              refine w_ifJ (k := fun s_ => (m_law_changed_j14 s_)) (fun (p_told : (List (Option Int))) (σ : L2.St) (G : Hp) (O : Own) => ∃ (l_p_told : Addr) (vs_p_told : List V), σ = [some v_p_numbers, some (.int p_which), some (.int p_place), some (.int p_one), some (.ref l_p_told), some (.int p_at)] ∧ O = [(l_p_told, .lst vs_p_told)] ∧ RLs (rO zI) K G vs_p_told p_told) (t_test (K := K) (e_eq srI (e_var (K := K) (i := 1) (R := zI) (x := p_which) rfl rfl) e_int)) hs hm (fun p_told σ_ G1_13 G13 O_ H13 e13 w_ e113 hs hm => ?_) (fun G13 H13 J13 e13 hs hm => ?_) (fun G13 H13 J13 e13 hs hm => ?_)
              · obtain ⟨l_p_told, vs_p_told, rfl, rfl, h_p_told⟩ := w_
                have h_p_numbers := ((rK (rO zI))).mono e13 h_p_numbers
                have h_p_told := RLs.mono e113 h_p_told
                refine (show (_ : TS) _ ([some v_p_numbers, some (.int p_which), some (.int p_place), some (.int p_one), some (.ref l_p_told), some (.int p_at)] : L2.St) _ from ?_)
                unfold m_law_changed_j14 at hm
                try dsimp only at hm
                have ng15 := (hs.at 0 rfl).2.1
                have eg15 := same_new (o := HO.lst vs_p_told) ng15
                have hs := hs.give 0 rfl
                have h_p_told : (rK (rO zI)).r K _ (.ref l_p_told) p_told := ⟨l_p_told, vs_p_told, rfl, upd_same, RLs.mono eg15 h_p_told⟩
                have h_p_numbers := ((rK (rO zI))).mono eg15 h_p_numbers
                exact w_ret0 (K := K) (e_var (K := K) (i := 4) (R := (rK (rO zI))) (x := p_told) rfl h_p_told) hs hm fun r v G2 H2 hs2 hr2 hq => hq v G2 H2 hs2.fin hr2
              · have h_p_numbers := ((rK (rO zI))).mono e13 h_p_numbers
                have h_p_told := RLs.mono e13 h_p_told
                have b13 := Same.refl G13
                refine w_set (K := K) (i := 4) 0 (xs := p_told) rfl rfl h_p_told (e_some nn_I (e_neg e_int)) (e_var (K := K) (i := 5) (R := zI) (x := p_at) rfl rfl) hs hm (fun p_told vs_p_told G16 H16 e16 hs h16 hm => ?_)
                have h_p_numbers := ((rK (rO zI))).mono e16 h_p_numbers
                have b13 := Same.trans b13 e16
                have h_p_told := h16
                exact J13.nx p_told _ _ _ _ _ b13 ⟨l_p_told, vs_p_told, rfl, rfl, h_p_told⟩ (Same.refl _) hs hm
              · have h_p_numbers := ((rK (rO zI))).mono e13 h_p_numbers
                have h_p_told := RLs.mono e13 h_p_told
                have b13 := Same.refl G13
                exact J13.nx p_told _ _ _ _ _ b13 ⟨l_p_told, vs_p_told, rfl, rfl, h_p_told⟩ (Same.refl _) hs hm
        · have h_p_numbers := ((rK (rO zI))).mono e7 h_p_numbers
          have h_p_told := RLs.mono e7 h_p_told
          have b7 := Same.refl G7
          refine w_set (K := K) (i := 4) 0 (xs := p_told) rfl rfl h_p_told (e_nonO (R := zI)) e_int hs hm (fun p_told vs_p_told G17 H17 e17 hs h17 hm => ?_)
          have h_p_numbers := ((rK (rO zI))).mono e17 h_p_numbers
          have b7 := Same.trans b7 e17
          have h_p_told := h17
          exact J7.nx p_told _ _ _ _ _ b7 ⟨l_p_told, vs_p_told, rfl, rfl, h_p_told⟩ (Same.refl _) hs hm
        · have h_p_numbers := ((rK (rO zI))).mono e7 h_p_numbers
          have h_p_told := RLs.mono e7 h_p_told
          have b7 := Same.refl G7
          exact J7.nx p_told _ _ _ _ _ b7 ⟨l_p_told, vs_p_told, rfl, rfl, h_p_told⟩ (Same.refl _) hs hm
      · have h_p_numbers := ((rK (rO zI))).mono e5 h_p_numbers
        have h_p_told := RLs.mono e5 h_p_told
        have b5 := Same.refl G5
        refine w_set (K := K) (i := 4) 0 (xs := p_told) rfl rfl h_p_told (e_nonO (R := zI)) (e_var (K := K) (i := 5) (R := zI) (x := p_at) rfl rfl) hs hm (fun p_told vs_p_told G18 H18 e18 hs h18 hm => ?_)
        have h_p_numbers := ((rK (rO zI))).mono e18 h_p_numbers
        have b5 := Same.trans b5 e18
        have h_p_told := h18
        exact J5.nx p_told _ _ _ _ _ b5 ⟨l_p_told, vs_p_told, rfl, rfl, h_p_told⟩ (Same.refl _) hs hm
      · have h_p_numbers := ((rK (rO zI))).mono e5 h_p_numbers
        have h_p_told := RLs.mono e5 h_p_told
        have b5 := Same.refl G5
        exact J5.nx p_told _ _ _ _ _ b5 ⟨l_p_told, vs_p_told, rfl, rfl, h_p_told⟩ (Same.refl _) hs hm
    · have h_p_numbers := ((rK (rO zI))).mono e3 h_p_numbers
      have h_p_told := RLs.mono e3 h_p_told
      have b3 := Same.refl G3
      refine w_set (K := K) (i := 4) 0 (xs := p_told) rfl rfl h_p_told (e_some nn_I (e_var (K := K) (i := 3) (R := zI) (x := p_one) rfl rfl)) (e_var (K := K) (i := 5) (R := zI) (x := p_at) rfl rfl) hs hm (fun p_told vs_p_told G19 H19 e19 hs h19 hm => ?_)
      have h_p_numbers := ((rK (rO zI))).mono e19 h_p_numbers
      have b3 := Same.trans b3 e19
      have h_p_told := h19
      exact J3.nx p_told _ _ _ _ _ b3 ⟨l_p_told, vs_p_told, rfl, rfl, h_p_told⟩ (Same.refl _) hs hm
    · have h_p_numbers := ((rK (rO zI))).mono e3 h_p_numbers
      have h_p_told := RLs.mono e3 h_p_told
      have b3 := Same.refl G3
      exact J3.nx p_told _ _ _ _ _ b3 ⟨l_p_told, vs_p_told, rfl, rfl, h_p_told⟩ (Same.refl _) hs hm

theorem ok_law_error {P : Program} {w : World} {K : PySem.W.Frag} {mg : Str → Option Value} {base : Heap} {cl : Nat → Addr} {fa : Addr} {fd : FuncData} (F : Fun K "_law_error" "_law_error" s_law_error fa fd) (T : Txt K mg cl) (C_play_game : Cal P w K mg base "play_game" 4 ["table", "driver_count", "bad"] (spPF K cl (rsC (rP (rsC zI (rsC zI (rs1 (rT (rT (rP (rsC zI (rs1 zI))))))))) (rsC zI (rs1 (rK zI)))) (fun H => (rP (rsC rS (rs1 (rF H (rO zI)))))) (fun a => m_play_game (a.1) (a.2.1) (a.2.2)))) (C_shows_safe : Cal P w K mg base "shows_safe" 2 ["table", "driver_count", "bad", "moves"] (spP K cl (rsC (rP (rsC zI (rsC zI (rs1 (rT (rT (rP (rsC zI (rs1 zI))))))))) (rsC zI (rsC (rK zI) (rs1 (rK (rO zI)))))) rB (fun a => m_shows_safe (a.1) (a.2.1) (a.2.2.1) (a.2.2.2)))) (C_shows_lost : Cal P w K mg base "shows_lost" 2 ["table", "driver_count", "bad", "rounds"] (spP K cl (rsC (rP (rsC zI (rsC zI (rs1 (rT (rT (rP (rsC zI (rs1 zI))))))))) (rsC zI (rsC (rK zI) (rs1 (rK (rO zI)))))) rB (fun a => m_shows_lost (a.1) (a.2.1) (a.2.2.1) (a.2.2.2)))) (C_driven_table : Cal P w K mg base "driven_table" 3 ["table", "driver_count", "moves"] (spP K cl (rsC (rP (rsC zI (rsC zI (rs1 (rT (rT (rP (rsC zI (rs1 zI))))))))) (rsC zI (rs1 (rK (rO zI))))) (rP (rsC zI (rsC zI (rs1 (rT (rT (rP (rsC zI (rs1 zI))))))))) (fun a => m_driven_table (a.1) (a.2.1) (a.2.2)))) :
    FnOk P w K mg base (L2.CX P w) 5 fa fd ["which", "table", "drivers", "bad", "items"] (spP K cl (rsC zI (rsC (rP (rsC zI (rsC zI (rs1 (rT (rT (rP (rsC zI (rs1 zI))))))))) (rsC zI (rsC (rK zI) (rs1 (rK (rO zI))))))) zI (fun a => m_law_error (a.1) (a.2.1) (a.2.2.1) (a.2.2.2.1) (a.2.2.2.2))) := by
  refine F.okX sc_law_error (fun vs H Q E h => ?_) (fun cdv A outer s H vs Q E hr h => ?_)
  · obtain ⟨G, a, _, hS, _⟩ := h
    exact (lnC (lnC (lnC (lnC ln1)))) _ _ _ _ hS
  · obtain ⟨G, ⟨p_which, p_table, p_drivers, p_bad, p_items⟩, hg, hS, hm⟩ := h
    obtain ⟨v_p_which, _, rfl, h_p_which, v_p_table, _, rfl, h_p_table, v_p_drivers, _, rfl, h_p_drivers, v_p_bad, _, rfl, h_p_bad, v_p_items, rfl, h_p_items⟩ := hS
    cases (show v_p_which = V.int p_which from h_p_which)
    cases (show v_p_drivers = V.int p_drivers from h_p_drivers)
    have tk : Takes (cxOf (L2.CX P w) P w K mg base N_law_error "_law_error" (defScope s_law_error) fa cdv A outer s H E) (fun cls d _ H => E cls d H) := takes_of rfl rfl rfl rfl
    refine ⟨_, (pss_cons (show PS _ _ (tTry _ K _ 5 _ _) from ps_try_as (i := 5) rfl rfl sc_law_error.nd rfl rfl (c := .ref (cl 2)) ⟨rfl, by decide, .inl T.g_2⟩ tk (fun W1 pn xe tkW1 hp => (pss_cons (ps_if (pt_cmpR op_eq (pv 0) pe_int (nomark _)) (pss_cons (ps_expr (pe_callS (E := WE W1) C_play_game.ok (hr.mono (by decide)) rfl C_play_game.mgx C_play_game.kp C_play_game.bd (fun σ => passAt tkW1 σ) (pa_cons (pv 1) (pa_cons (pv 2) (pa_cons (pv 3) pa_nil)))))
     pss_nil) (pss_cons (ps_if (pt_cmpR op_eq (pv 0) pe_int (nomark _)) (pss_cons (ps_expr (pe_callS (E := WE W1) C_shows_safe.ok (hr.mono (by decide)) rfl C_shows_safe.mgx C_shows_safe.kp C_shows_safe.bd (fun σ => passAt tkW1 σ) (pa_cons (pv 1) (pa_cons (pv 2) (pa_cons (pv 3) (pa_cons (pv 4) pa_nil))))))
     pss_nil) (pss_cons (ps_if (pt_cmpR op_eq (pv 0) pe_int (nomark _)) (pss_cons (ps_expr (pe_callS (E := WE W1) C_shows_lost.ok (hr.mono (by decide)) rfl C_shows_lost.mgx C_shows_lost.kp C_shows_lost.bd (fun σ => passAt tkW1 σ) (pa_cons (pv 1) (pa_cons (pv 2) (pa_cons (pv 3) (pa_cons (pv 4) pa_nil))))))
     pss_nil) (pss_cons (ps_expr (pe_callS (E := WE W1) C_driven_table.ok (hr.mono (by decide)) rfl C_driven_table.mgx C_driven_table.kp C_driven_table.bd (fun σ => passAt tkW1 σ) (pa_cons (pv 1) (pa_cons (pv 2) (pa_cons (pv 4) pa_nil)))))
     pss_nil))
     pss_nil))
     pss_nil))
     pss_nil)) (tSui_ok (cl := cl) (n := 2) (cs := [cl 0, cl 1]) (fun a oe k pn hk hz hf => pss_cons (ps_ret (show PE _ _ (tBM K "list" (rIndex K) _ _) from pe_bm PySem.F.plainAttrs_list PySem.F.slot_list_index PySem.F.type_list_index mt_index (pe_lst (pa_cons (pe_callB (r := rIsE K (cl k) a) (call_isE (T.ec k hk) hz hf) (by rfl) T.n_isinstance b_isinstance (pa_cons (pv 5) (pa_cons (pe_glob (v := .ref (cl 0)) rfl T.g_0 rfl) pa_nil))) (pa_cons (pe_callB (r := rIsE K (cl k) a) (call_isE (T.ec k hk) hz hf) (by rfl) T.n_isinstance b_isinstance (pa_cons (pv 5) (pa_cons (pe_glob (v := .ref (cl 1)) rfl T.g_1 rfl) pa_nil))) (pa_cons pe_bl pa_nil)))) (pa_cons pe_bl pa_nil))) pss_nil)))
     (pss_cons (ps_ret (pe_un un_neg pe_int))
     pss_nil)), ?_⟩
    have hs : Hs ⟨H, G, E, cl⟩ G [] H := Hs.start hg
    have hm := Wp.ofSp (G0 := G) hm
    dsimp only at hm
    unfold m_law_error at hm
    refine (show (_ : TS) _ ([some (.int p_which), some v_p_table, some (.int p_drivers), some v_p_bad, some v_p_items, none] : L2.St) _ from ?_)
    refine w_try (K := K) (bs := fun k => [decide (k = 0), decide (k = 1)]) hs hm (by show 5 < 6; decide) (fun k hk => T.ex k hk) (fun k hk => .cons (T.kit k 0 hk (by decide)) (.cons (T.kit k 1 hk (by decide)) (.nil))) (fun k _ => by show 2 < 1000; decide) (fun k H2 hk e2 hq => hq.out _ G H2 (Stp.grow hg e2) rfl) (fun D1 Qb1 W1 nx1 hs hm => ?_) (fun G1 H1 e1 hs hm => ?_)
    · have b1 := Hs.sr hs
      refine w_if (t_test (K := K) (e_eq srI (e_var (K := K) (i := 0) (R := zI) (x := p_which) rfl rfl) e_int)) hs hm (fun G2 H2 e2 hs hm => ?_) (fun G2 H2 e2 hs hm => ?_)
      · have h_p_table := ((rP (rsC zI (rsC zI (rs1 (rT (rT (rP (rsC zI (rs1 zI)))))))))).mono e2 h_p_table
        have h_p_bad := ((rK zI)).mono e2 h_p_bad
        have h_p_items := ((rK (rO zI))).mono e2 h_p_items
        have b1 := Same.trans b1 e2
        refine w_drop (K := K) (e_callSF (Rf := fun H => (rP (rsC rS (rs1 (rF H (rO zI)))))) (fm := ⟨H, G, WE W1 [some (.int p_which), some v_p_table, some (.int p_drivers), some v_p_bad, some v_p_items, none], cl⟩) (an_P2 an_R an_F) rfl (a_cons (e_var (K := K) (i := 1) (R := (rP (rsC zI (rsC zI (rs1 (rT (rT (rP (rsC zI (rs1 zI)))))))))) (x := p_table) rfl h_p_table) (a_cons (e_var (K := K) (i := 2) (R := zI) (x := p_drivers) rfl rfl) (a_one (e_var (K := K) (i := 3) (R := (rK zI)) (x := p_bad) rfl h_p_bad))))) hs hm (fun x3 G3 H3 e3 hs hm => ?_)
        have h_p_table := ((rP (rsC zI (rsC zI (rs1 (rT (rT (rP (rsC zI (rs1 zI)))))))))).mono e3 h_p_table
        have h_p_bad := ((rK zI)).mono e3 h_p_bad
        have h_p_items := ((rK (rO zI))).mono e3 h_p_items
        have b1 := Same.trans b1 e3
        refine nx_of ?_
        refine (show (_ : TS) _ ([some (.int p_which), some v_p_table, some (.int p_drivers), some v_p_bad, some v_p_items, none] : L2.St) _ from ?_)
        exact nx1 _ _ b1 (Hs.withE (E' := E) hs) hm.out
      · have h_p_table := ((rP (rsC zI (rsC zI (rs1 (rT (rT (rP (rsC zI (rs1 zI)))))))))).mono e2 h_p_table
        have h_p_bad := ((rK zI)).mono e2 h_p_bad
        have h_p_items := ((rK (rO zI))).mono e2 h_p_items
        have b1 := Same.trans b1 e2
        refine w_if (t_test (K := K) (e_eq srI (e_var (K := K) (i := 0) (R := zI) (x := p_which) rfl rfl) e_int)) hs hm (fun G4 H4 e4 hs hm => ?_) (fun G4 H4 e4 hs hm => ?_)
        · have h_p_table := ((rP (rsC zI (rsC zI (rs1 (rT (rT (rP (rsC zI (rs1 zI)))))))))).mono e4 h_p_table
          have h_p_bad := ((rK zI)).mono e4 h_p_bad
          have h_p_items := ((rK (rO zI))).mono e4 h_p_items
          have b1 := Same.trans b1 e4
          refine w_drop (K := K) (e_callS (fm := ⟨H, G, WE W1 [some (.int p_which), some v_p_table, some (.int p_drivers), some v_p_bad, some v_p_items, none], cl⟩) rfl (a_cons (e_var (K := K) (i := 1) (R := (rP (rsC zI (rsC zI (rs1 (rT (rT (rP (rsC zI (rs1 zI)))))))))) (x := p_table) rfl h_p_table) (a_cons (e_var (K := K) (i := 2) (R := zI) (x := p_drivers) rfl rfl) (a_cons (e_var (K := K) (i := 3) (R := (rK zI)) (x := p_bad) rfl h_p_bad) (a_one (e_var (K := K) (i := 4) (R := (rK (rO zI))) (x := p_items) rfl h_p_items)))))) hs hm (fun x5 G5 H5 e5 hs hm => ?_)
          have h_p_table := ((rP (rsC zI (rsC zI (rs1 (rT (rT (rP (rsC zI (rs1 zI)))))))))).mono e5 h_p_table
          have h_p_bad := ((rK zI)).mono e5 h_p_bad
          have h_p_items := ((rK (rO zI))).mono e5 h_p_items
          have b1 := Same.trans b1 e5
          refine nx_of ?_
          refine (show (_ : TS) _ ([some (.int p_which), some v_p_table, some (.int p_drivers), some v_p_bad, some v_p_items, none] : L2.St) _ from ?_)
          refine nx_of ?_
          refine (show (_ : TS) _ ([some (.int p_which), some v_p_table, some (.int p_drivers), some v_p_bad, some v_p_items, none] : L2.St) _ from ?_)
          exact nx1 _ _ b1 (Hs.withE (E' := E) hs) hm.out
        · have h_p_table := ((rP (rsC zI (rsC zI (rs1 (rT (rT (rP (rsC zI (rs1 zI)))))))))).mono e4 h_p_table
          have h_p_bad := ((rK zI)).mono e4 h_p_bad
          have h_p_items := ((rK (rO zI))).mono e4 h_p_items
          have b1 := Same.trans b1 e4
          refine w_if (t_test (K := K) (e_eq srI (e_var (K := K) (i := 0) (R := zI) (x := p_which) rfl rfl) e_int)) hs hm (fun G6 H6 e6 hs hm => ?_) (fun G6 H6 e6 hs hm => ?_)
          · have h_p_table := ((rP (rsC zI (rsC zI (rs1 (rT (rT (rP (rsC zI (rs1 zI)))))))))).mono e6 h_p_table
            have h_p_bad := ((rK zI)).mono e6 h_p_bad
            have h_p_items := ((rK (rO zI))).mono e6 h_p_items
            have b1 := Same.trans b1 e6
            refine w_drop (K := K) (e_callS (fm := ⟨H, G, WE W1 [some (.int p_which), some v_p_table, some (.int p_drivers), some v_p_bad, some v_p_items, none], cl⟩) rfl (a_cons (e_var (K := K) (i := 1) (R := (rP (rsC zI (rsC zI (rs1 (rT (rT (rP (rsC zI (rs1 zI)))))))))) (x := p_table) rfl h_p_table) (a_cons (e_var (K := K) (i := 2) (R := zI) (x := p_drivers) rfl rfl) (a_cons (e_var (K := K) (i := 3) (R := (rK zI)) (x := p_bad) rfl h_p_bad) (a_one (e_var (K := K) (i := 4) (R := (rK (rO zI))) (x := p_items) rfl h_p_items)))))) hs hm (fun x7 G7 H7 e7 hs hm => ?_)
            have h_p_table := ((rP (rsC zI (rsC zI (rs1 (rT (rT (rP (rsC zI (rs1 zI)))))))))).mono e7 h_p_table
            have h_p_bad := ((rK zI)).mono e7 h_p_bad
            have h_p_items := ((rK (rO zI))).mono e7 h_p_items
            have b1 := Same.trans b1 e7
            refine nx_of ?_
            refine (show (_ : TS) _ ([some (.int p_which), some v_p_table, some (.int p_drivers), some v_p_bad, some v_p_items, none] : L2.St) _ from ?_)
            refine nx_of ?_
            refine (show (_ : TS) _ ([some (.int p_which), some v_p_table, some (.int p_drivers), some v_p_bad, some v_p_items, none] : L2.St) _ from ?_)
            refine nx_of ?_
            refine (show (_ : TS) _ ([some (.int p_which), some v_p_table, some (.int p_drivers), some v_p_bad, some v_p_items, none] : L2.St) _ from ?_)
            exact nx1 _ _ b1 (Hs.withE (E' := E) hs) hm.out
          · have h_p_table := ((rP (rsC zI (rsC zI (rs1 (rT (rT (rP (rsC zI (rs1 zI)))))))))).mono e6 h_p_table
            have h_p_bad := ((rK zI)).mono e6 h_p_bad
            have h_p_items := ((rK (rO zI))).mono e6 h_p_items
            have b1 := Same.trans b1 e6
            refine w_drop (K := K) (e_callS (fm := ⟨H, G, WE W1 [some (.int p_which), some v_p_table, some (.int p_drivers), some v_p_bad, some v_p_items, none], cl⟩) rfl (a_cons (e_var (K := K) (i := 1) (R := (rP (rsC zI (rsC zI (rs1 (rT (rT (rP (rsC zI (rs1 zI)))))))))) (x := p_table) rfl h_p_table) (a_cons (e_var (K := K) (i := 2) (R := zI) (x := p_drivers) rfl rfl) (a_one (e_var (K := K) (i := 4) (R := (rK (rO zI))) (x := p_items) rfl h_p_items))))) hs hm (fun x8 G8 H8 e8 hs hm => ?_)
            have h_p_table := ((rP (rsC zI (rsC zI (rs1 (rT (rT (rP (rsC zI (rs1 zI)))))))))).mono e8 h_p_table
            have h_p_bad := ((rK zI)).mono e8 h_p_bad
            have h_p_items := ((rK (rO zI))).mono e8 h_p_items
            have b1 := Same.trans b1 e8
            refine nx_of ?_
            refine (show (_ : TS) _ ([some (.int p_which), some v_p_table, some (.int p_drivers), some v_p_bad, some v_p_items, none] : L2.St) _ from ?_)
            refine nx_of ?_
            refine (show (_ : TS) _ ([some (.int p_which), some v_p_table, some (.int p_drivers), some v_p_bad, some v_p_items, none] : L2.St) _ from ?_)
            refine nx_of ?_
            refine (show (_ : TS) _ ([some (.int p_which), some v_p_table, some (.int p_drivers), some v_p_bad, some v_p_items, none] : L2.St) _ from ?_)
            exact nx1 _ _ b1 (Hs.withE (E' := E) hs) hm.out
    · have h_p_table := ((rP (rsC zI (rsC zI (rs1 (rT (rT (rP (rsC zI (rs1 zI)))))))))).mono e1 h_p_table
      have h_p_bad := ((rK zI)).mono e1 h_p_bad
      have h_p_items := ((rK (rO zI))).mono e1 h_p_items
      refine (show (_ : TS) _ ([some (.int p_which), some v_p_table, some (.int p_drivers), some v_p_bad, some v_p_items, none] : L2.St) _ from ?_)
      exact w_ret0 (K := K) (e_neg e_int) hs hm fun r v G2 H2 hs2 hr2 hq => hq v G2 H2 hs2.fin hr2

theorem ok_law_same_told {P : Program} {w : World} {K : PySem.W.Frag} {mg : Str → Option Value} {base : Heap} {cl : Nat → Addr} {fa : Addr} {fd : FuncData} (F : Fun K "_law_same_told" "_law_same_told" s_law_same_told fa fd) (T : Txt K mg cl) (C_law_is_integer : Cal P w K mg base "_law_is_integer" 1 ["actual"] (spP K cl (rs1 (rO zI)) rB (fun a => m_law_is_integer a))) :
    FnOk P w K mg base (L2.CX P w) 2 fa fd ["actual", "kind", "expected"] (spP K cl (rsC (rP (rsC rS (rs1 (rK (rO zI))))) (rsC rS (rs1 (rK (rO zI))))) rB (fun a => m_law_same_told (a.1) (a.2.1) (a.2.2))) := by
  refine F.okX sc_law_same_told (fun vs H Q E h => ?_) (fun cdv A outer s H vs Q E hr h => ?_)
  · obtain ⟨G, a, _, hS, _⟩ := h
    exact (lnC (lnC ln1)) _ _ _ _ hS
  · obtain ⟨G, ⟨p_actual, p_kind, p_expected⟩, hg, hS, hm⟩ := h
    obtain ⟨v_p_actual, _, rfl, h_p_actual, v_p_kind, _, rfl, h_p_kind, v_p_expected, rfl, h_p_expected⟩ := hS
    cases (show v_p_kind = V.str p_kind from h_p_kind)
    have tk : Takes (cxOf (L2.CX P w) P w K mg base N_law_same_told "_law_same_told" (defScope s_law_same_told) fa cdv A outer s H E) (fun cls d _ H => E cls d H) := takes_of rfl rfl rfl rfl
    refine ⟨_, (pss_cons (ps_if (PW.pt (pw_or (pt_not (pt_val (pe_callB (r := rIsi K) call_isi (by rfl) T.n_isinstance b_isinstance (pa_cons (pv 0) (pa_cons (pe_bltn (v := .ty "tuple") (by rfl) T.n_tuple b_tuple rfl) pa_nil))))) (pw_or (pt_cmpR op_ne (pe_callB (r := rLen K) call_len (by rfl) T.n_len b_len (pa_cons (pv 0) pa_nil)) pe_int (nomark _)) (pw_or (pt_not (pt_val (pe_callB (r := rIsi K) call_isi (by rfl) T.n_isinstance b_isinstance (pa_cons (pe_ix (r := rIxT K) ix_tup (pv 0) pe_int (fun _ _ => rfl)) (pa_cons (pe_bltn (v := .ty "str") (by rfl) T.n_str b_str rfl) pa_nil))))) (pw_or1 (pt_cmpR op_ne (pe_ix (r := rIxT K) ix_tup (pv 0) pe_int (fun _ _ => rfl)) (pv 1) (nomark _))))))) (pss_cons (ps_ret pe_bl)
     pss_nil) pss_nil)
     (pss_cons (ps_if (PW.pt (pw_or (pt_not (pt_val (pe_callB (r := rIsi K) call_isi (by rfl) T.n_isinstance b_isinstance (pa_cons (pe_ix (r := rIxT K) ix_tup (pv 0) pe_int (fun _ _ => rfl)) (pa_cons (pe_bltn (v := .ty "list") (by rfl) T.n_list b_list rfl) pa_nil))))) (pw_or1 (pt_cmpR op_ne (pe_callB (r := rLen K) call_len (by rfl) T.n_len b_len (pa_cons (pe_ix (r := rIxT K) ix_tup (pv 0) pe_int (fun _ _ => rfl)) pa_nil)) (pe_callB (r := rLen K) call_len (by rfl) T.n_len b_len (pa_cons (pv 2) pa_nil)) (nomark _))))) (pss_cons (ps_ret pe_bl)
     pss_nil) pss_nil)
     (pss_cons (ps_for (passes_of rfl) rfl (pi_range1 rfl T.n_range (pa_cons (pe_callB (r := rLen K) call_len (by rfl) T.n_len b_len (pa_cons (pv 2) pa_nil)) pa_nil)) (pg_name (i := 3) sc_law_same_told.nd rfl (by first | exact Or.inl rfl | exact Or.inr rfl)) (pss_cons (ps_if (pt_cmpR op_isN (pe_ix (r := rIxL K) ix_list (pv 2) (pv 3) (fun _ _ => rfl)) pe_non (nomark _)) (pss_cons (ps_if (pt_cmpR op_notN (pe_ix (r := rIxL K) ix_list (pe_ix (r := rIxT K) ix_tup (pv 0) pe_int (fun _ _ => rfl)) (pv 3) (fun _ _ => rfl)) pe_non (nomark _)) (pss_cons (ps_ret pe_bl)
     pss_nil) pss_nil)
     pss_nil) (pss_cons (ps_if (PW.pt (pw_or (pt_not (pt_val (pe_call (E := E) C_law_is_integer.ok (hr.mono (by decide)) rfl C_law_is_integer.mgx C_law_is_integer.kp C_law_is_integer.bd .nil (passes_call tk (fun _ _ _ _ h => h)) (pa_cons (pe_ix (r := rIxL K) ix_list (pe_ix (r := rIxT K) ix_tup (pv 0) pe_int (fun _ _ => rfl)) (pv 3) (fun _ _ => rfl)) pa_nil)))) (pw_or1 (pt_cmpR op_ne (pe_ix (r := rIxL K) ix_list (pe_ix (r := rIxT K) ix_tup (pv 0) pe_int (fun _ _ => rfl)) (pv 3) (fun _ _ => rfl)) (pe_ix (r := rIxL K) ix_list (pv 2) (pv 3) (fun _ _ => rfl)) (nomark _))))) (pss_cons (ps_ret pe_bl)
     pss_nil) pss_nil)
     pss_nil))
     pss_nil))
     (pss_cons (ps_ret pe_bl)
     pss_nil)))), ?_⟩
    have hs : Hs ⟨H, G, E, cl⟩ G [] H := Hs.start hg
    have hm := Wp.ofSp (G0 := G) hm
    dsimp only at hm
    unfold m_law_same_told at hm
    refine (show (_ : TS) _ ([some v_p_actual, some (.str p_kind), some v_p_expected, none] : L2.St) _ from ?_)
    refine w_if (t_or (t_not (t_val (K := K) (e_isi (g := fun _ => true) ty_P (fun _ => by decide +kernel) (e_var (K := K) (i := 0) (R := (rP (rsC rS (rs1 (rK (rO zI)))))) (x := p_actual) rfl h_p_actual)))) (t_or (t_test (K := K) (e_ne srI (e_lenP (lnC ln1) (e_var (K := K) (i := 0) (R := (rP (rsC rS (rs1 (rK (rO zI)))))) (x := p_actual) rfl h_p_actual)) e_int)) (t_or (t_not (t_val (K := K) (e_isi (g := fun _ => true) ty_S (fun _ => by decide +kernel) (e_proj (k := 0) pj0 (e_var (K := K) (i := 0) (R := (rP (rsC rS (rs1 (rK (rO zI)))))) (x := p_actual) rfl h_p_actual))))) (t_test (K := K) (e_ne srS (e_proj (k := 0) pj0 (e_var (K := K) (i := 0) (R := (rP (rsC rS (rs1 (rK (rO zI)))))) (x := p_actual) rfl h_p_actual)) (e_var (K := K) (i := 1) (R := rS) (x := p_kind) rfl rfl)))))) hs hm (fun G1 H1 e1 hs hm => ?_) (fun G1 H1 e1 hs hm => ?_)
    · have h_p_actual := ((rP (rsC rS (rs1 (rK (rO zI)))))).mono e1 h_p_actual
      have h_p_expected := ((rK (rO zI))).mono e1 h_p_expected
      exact w_ret0 (K := K) e_bl hs hm fun r v G2 H2 hs2 hr2 hq => hq v G2 H2 hs2.fin hr2
    · have h_p_actual := ((rP (rsC rS (rs1 (rK (rO zI)))))).mono e1 h_p_actual
      have h_p_expected := ((rK (rO zI))).mono e1 h_p_expected
      refine nx_of ?_
      refine (show (_ : TS) _ ([some v_p_actual, some (.str p_kind), some v_p_expected, none] : L2.St) _ from ?_)
      refine w_if (t_or (t_not (t_val (K := K) (e_isi (g := fun _ => true) ty_K (fun _ => by decide +kernel) (e_proj (k := 1) (pjS pj1) (e_var (K := K) (i := 0) (R := (rP (rsC rS (rs1 (rK (rO zI)))))) (x := p_actual) rfl h_p_actual))))) (t_test (K := K) (e_ne srI (e_len sq_K (e_proj (k := 1) (pjS pj1) (e_var (K := K) (i := 0) (R := (rP (rsC rS (rs1 (rK (rO zI)))))) (x := p_actual) rfl h_p_actual))) (e_len sq_K (e_var (K := K) (i := 2) (R := (rK (rO zI))) (x := p_expected) rfl h_p_expected))))) hs hm (fun G2 H2 e2 hs hm => ?_) (fun G2 H2 e2 hs hm => ?_)
      · have h_p_actual := ((rP (rsC rS (rs1 (rK (rO zI)))))).mono e2 h_p_actual
        have h_p_expected := ((rK (rO zI))).mono e2 h_p_expected
        exact w_ret0 (K := K) e_bl hs hm fun r v G2 H2 hs2 hr2 hq => hq v G2 H2 hs2.fin hr2
      · have h_p_actual := ((rP (rsC rS (rs1 (rK (rO zI)))))).mono e2 h_p_actual
        have h_p_expected := ((rK (rO zI))).mono e2 h_p_expected
        refine nx_of ?_
        refine (show (_ : TS) _ ([some v_p_actual, some (.str p_kind), some v_p_expected, none] : L2.St) _ from ?_)
        refine w_forB (K := K) (Rr := rB) (fun (_ : Unit) (σ : L2.St) (G : Hp) (O : Own) => ∃ (d_3 : Option V), σ = [some v_p_actual, some (.str p_kind), some v_p_expected, d_3] ∧ O = []) (i_rng1 (e_len sq_K (e_var (K := K) (i := 2) (R := (rK (rO zI))) (x := p_expected) rfl h_p_expected))) (fun _ _ _ _ _ _ h => nomatch h) (tg_name (i := 3) (R := zI)) hs hm ⟨none, rfl, rfl⟩ (fun r v G2 O2 H2 hs2 hr2 hq => hq v G2 H2 hs2.fin hr2) (fun p_k s_ σ_ G1_3 G3 O_ H3 vv3 D3 Qb3 e3 w_ e13 hs hv3 E3 hm => ?_) (fun s_ σ_ G1_3 G3 O_ H3 e3 w_ e13 hs hm => ?_)
        · obtain ⟨d_3, rfl, rfl⟩ := w_
          have h_p_actual := ((rP (rsC rS (rs1 (rK (rO zI)))))).mono e3 h_p_actual
          have h_p_expected := ((rK (rO zI))).mono e3 h_p_expected
          obtain ⟨v_p_k, rfl, h_p_k⟩ := hv3
          cases (show v_p_k = V.int p_k from h_p_k)
          have b3 := Same.refl G3
          refine (show (_ : TS) _ ([some v_p_actual, some (.str p_kind), some v_p_expected, some (.int p_k)] : L2.St) _ from ?_)
          unfold m_law_same_told_b7 at hm
          try dsimp only at hm
          refine w_if (t_test (K := K) (e_isN (e_ixL (e_KL (e_var (K := K) (i := 2) (R := (rK (rO zI))) (x := p_expected) rfl h_p_expected)) (e_var (K := K) (i := 3) (R := zI) (x := p_k) rfl rfl)))) hs hm (fun G4 H4 e4 hs hm => ?_) (fun G4 H4 e4 hs hm => ?_)
          · have h_p_actual := ((rP (rsC rS (rs1 (rK (rO zI)))))).mono e4 h_p_actual
            have h_p_expected := ((rK (rO zI))).mono e4 h_p_expected
            have b3 := Same.trans b3 e4
            refine w_if (t_test (K := K) (e_notN (e_ixL (e_KL (e_proj (k := 1) (pjS pj1) (e_var (K := K) (i := 0) (R := (rP (rsC rS (rs1 (rK (rO zI)))))) (x := p_actual) rfl h_p_actual))) (e_var (K := K) (i := 3) (R := zI) (x := p_k) rfl rfl)))) hs hm (fun G5 H5 e5 hs hm => ?_) (fun G5 H5 e5 hs hm => ?_)
            · have h_p_actual := ((rP (rsC rS (rs1 (rK (rO zI)))))).mono e5 h_p_actual
              have h_p_expected := ((rK (rO zI))).mono e5 h_p_expected
              have b3 := Same.trans b3 e5
              exact w_ret (K := K) (kr := Tn.rt) e_bl hs hm fun r v G2 H2 hs2 hr2 hq => E3.rt r v _ _ _ hs2 hr2 hq
            · have h_p_actual := ((rP (rsC rS (rs1 (rK (rO zI)))))).mono e5 h_p_actual
              have h_p_expected := ((rK (rO zI))).mono e5 h_p_expected
              have b3 := Same.trans b3 e5
              refine nx_of ?_
              refine (show (_ : TS) _ ([some v_p_actual, some (.str p_kind), some v_p_expected, some (.int p_k)] : L2.St) _ from ?_)
              refine nx_of ?_
              refine (show (_ : TS) _ ([some v_p_actual, some (.str p_kind), some v_p_expected, some (.int p_k)] : L2.St) _ from ?_)
              exact E3.nx () _ _ _ _ _ b3 ⟨some (.int p_k), rfl, rfl⟩ (Same.refl _) hs hm.out
          · have h_p_actual := ((rP (rsC rS (rs1 (rK (rO zI)))))).mono e4 h_p_actual
            have h_p_expected := ((rK (rO zI))).mono e4 h_p_expected
            have b3 := Same.trans b3 e4
            refine w_if (t_or (t_not (t_val (K := K) (e_call (fm := ⟨H, G, E, cl⟩) (a_one (e_ixL (e_KL (e_proj (k := 1) (pjS pj1) (e_var (K := K) (i := 0) (R := (rP (rsC rS (rs1 (rK (rO zI)))))) (x := p_actual) rfl h_p_actual))) (e_var (K := K) (i := 3) (R := zI) (x := p_k) rfl rfl)))))) (t_test (K := K) (e_ne srOI (e_ixL (e_KL (e_proj (k := 1) (pjS pj1) (e_var (K := K) (i := 0) (R := (rP (rsC rS (rs1 (rK (rO zI)))))) (x := p_actual) rfl h_p_actual))) (e_var (K := K) (i := 3) (R := zI) (x := p_k) rfl rfl)) (e_ixL (e_KL (e_var (K := K) (i := 2) (R := (rK (rO zI))) (x := p_expected) rfl h_p_expected)) (e_var (K := K) (i := 3) (R := zI) (x := p_k) rfl rfl))))) hs hm (fun G6 H6 e6 hs hm => ?_) (fun G6 H6 e6 hs hm => ?_)
            · have h_p_actual := ((rP (rsC rS (rs1 (rK (rO zI)))))).mono e6 h_p_actual
              have h_p_expected := ((rK (rO zI))).mono e6 h_p_expected
              have b3 := Same.trans b3 e6
              exact w_ret (K := K) (kr := Tn.rt) e_bl hs hm fun r v G2 H2 hs2 hr2 hq => E3.rt r v _ _ _ hs2 hr2 hq
            · have h_p_actual := ((rP (rsC rS (rs1 (rK (rO zI)))))).mono e6 h_p_actual
              have h_p_expected := ((rK (rO zI))).mono e6 h_p_expected
              have b3 := Same.trans b3 e6
              refine nx_of ?_
              refine (show (_ : TS) _ ([some v_p_actual, some (.str p_kind), some v_p_expected, some (.int p_k)] : L2.St) _ from ?_)
              refine nx_of ?_
              refine (show (_ : TS) _ ([some v_p_actual, some (.str p_kind), some v_p_expected, some (.int p_k)] : L2.St) _ from ?_)
              exact E3.nx () _ _ _ _ _ b3 ⟨some (.int p_k), rfl, rfl⟩ (Same.refl _) hs hm.out
        · obtain ⟨d_3, rfl, rfl⟩ := w_
          have h_p_actual := ((rP (rsC rS (rs1 (rK (rO zI)))))).mono e3 h_p_actual
          have h_p_expected := ((rK (rO zI))).mono e3 h_p_expected
          refine (show (_ : TS) _ ([some v_p_actual, some (.str p_kind), some v_p_expected, d_3] : L2.St) _ from ?_)
          try dsimp only at hm
          exact w_ret0 (K := K) e_bl hs hm fun r v G2 H2 hs2 hr2 hq => hq v G2 H2 hs2.fin hr2

theorem ok_law_right_moves {P : Program} {w : World} {K : PySem.W.Frag} {mg : Str → Option Value} {base : Heap} {cl : Nat → Addr} {fa : Addr} {fd : FuncData} (F : Fun K "_law_right_moves" "_law_right_moves" s_law_right_moves fa fd) (T : Txt K mg cl) (C_shows_safe : Cal P w K mg base "shows_safe" 2 ["table", "driver_count", "bad", "moves"] (spP K cl (rsC (rP (rsC zI (rsC zI (rs1 (rT (rT (rP (rsC zI (rs1 zI))))))))) (rsC zI (rsC (rK zI) (rs1 (rK (rO zI)))))) rB (fun a => m_shows_safe (a.1) (a.2.1) (a.2.2.1) (a.2.2.2)))) (C_law_safe : Cal P w K mg base "_law_safe" 3 ["table", "drivers", "bad", "moves"] (spP K cl (rsC (rP (rsC zI (rsC zI (rs1 (rT (rT (rP (rsC zI (rs1 zI))))))))) (rsC zI (rsC (rK zI) (rs1 (rK (rO zI)))))) rB (fun a => m_law_safe (a.1) (a.2.1) (a.2.2.1) (a.2.2.2)))) (C_law_usable : Cal P w K mg base "_law_usable" 2 ["table", "drivers", "moves"] (spP K cl (rsC (rP (rsC zI (rsC zI (rs1 (rT (rT (rP (rsC zI (rs1 zI))))))))) (rsC zI (rs1 (rK (rO zI))))) rB (fun a => m_law_usable (a.1) (a.2.1) (a.2.2)))) (C_law_error : Cal P w K mg base "_law_error" 5 ["which", "table", "drivers", "bad", "items"] (spP K cl (rsC zI (rsC (rP (rsC zI (rsC zI (rs1 (rT (rT (rP (rsC zI (rs1 zI))))))))) (rsC zI (rsC (rK zI) (rs1 (rK (rO zI))))))) zI (fun a => m_law_error (a.1) (a.2.1) (a.2.2.1) (a.2.2.2.1) (a.2.2.2.2)))) (C_law_same_table : Cal P w K mg base "_law_same_table" 2 ["actual", "expected"] (spP K cl (rsC (rP (rsC zI (rsC zI (rs1 (rT (rT (rP (rsC zI (rs1 zI))))))))) (rs1 (rP (rsC zI (rsC zI (rs1 (rT (rT (rP (rsC zI (rs1 zI))))))))))) rB (fun a => m_law_same_table (a.1) (a.2)))) (C_driven_table : Cal P w K mg base "driven_table" 3 ["table", "driver_count", "moves"] (spP K cl (rsC (rP (rsC zI (rsC zI (rs1 (rT (rT (rP (rsC zI (rs1 zI))))))))) (rsC zI (rs1 (rK (rO zI))))) (rP (rsC zI (rsC zI (rs1 (rT (rT (rP (rsC zI (rs1 zI))))))))) (fun a => m_driven_table (a.1) (a.2.1) (a.2.2)))) (C_law_driven : Cal P w K mg base "_law_driven" 2 ["table", "drivers", "moves"] (spP K cl (rsC (rP (rsC zI (rsC zI (rs1 (rT (rT (rP (rsC zI (rs1 zI))))))))) (rsC zI (rs1 (rK (rO zI))))) (rP (rsC zI (rsC zI (rs1 (rT (rT (rP (rsC zI (rs1 zI))))))))) (fun a => m_law_driven (a.1) (a.2.1) (a.2.2)))) :
    FnOk P w K mg base (L2.CX P w) 6 fa fd ["table", "drivers", "bad", "moves", "lost"] (spP K cl (rsC (rP (rsC zI (rsC zI (rs1 (rT (rT (rP (rsC zI (rs1 zI))))))))) (rsC zI (rsC (rK zI) (rsC (rK (rO zI)) (rs1 rB))))) rB (fun a => m_law_right_moves (a.1) (a.2.1) (a.2.2.1) (a.2.2.2.1) (a.2.2.2.2))) := by
  refine F.okX sc_law_right_moves (fun vs H Q E h => ?_) (fun cdv A outer s H vs Q E hr h => ?_)
  · obtain ⟨G, a, _, hS, _⟩ := h
    exact (lnC (lnC (lnC (lnC ln1)))) _ _ _ _ hS
  · obtain ⟨G, ⟨p_table, p_drivers, p_bad, p_moves, p_lost⟩, hg, hS, hm⟩ := h
    obtain ⟨v_p_table, _, rfl, h_p_table, v_p_drivers, _, rfl, h_p_drivers, v_p_bad, _, rfl, h_p_bad, v_p_moves, _, rfl, h_p_moves, v_p_lost, rfl, h_p_lost⟩ := hS
    cases (show v_p_drivers = V.int p_drivers from h_p_drivers)
    cases (show v_p_lost = V.bl p_lost from h_p_lost)
    have tk : Takes (cxOf (L2.CX P w) P w K mg base N_law_right_moves "_law_right_moves" (defScope s_law_right_moves) fa cdv A outer s H E) (fun cls d _ H => E cls d H) := takes_of rfl rfl rfl rfl
    refine ⟨_, (pss_cons (ps_set (i := 5) sc_law_right_moves.nd rfl (by first | exact Or.inl rfl | exact Or.inr rfl) (pe_lst (pa_cons (pe_callTy (r := rLi K) call_list_of (by rfl) T.n_list b_list (pa_cons (pv 2) pa_nil)) (pa_cons (pe_callTy (r := rLi K) call_list_of (by rfl) T.n_list b_list (pa_cons (pv 3) pa_nil)) pa_nil))))
     (pss_cons (ps_set (i := 6) sc_law_right_moves.nd rfl (by first | exact Or.inl rfl | exact Or.inr rfl) (pe_call (E := E) C_shows_safe.ok (hr.mono (by decide)) rfl C_shows_safe.mgx C_shows_safe.kp C_shows_safe.bd .nil (passes_call tk (fun _ _ _ _ h => h)) (pa_cons (pv 0) (pa_cons (pv 1) (pa_cons (pe_ix (r := rIxL K) ix_list (pv 5) pe_int (fun _ _ => rfl)) (pa_cons (pe_ix (r := rIxL K) ix_list (pv 5) pe_int (fun _ _ => rfl)) pa_nil))))))
     (pss_cons (ps_if (PW.pt (pw_or (pt_cmpR (r := rNeD K) (op_neD hr.units) (pv 5) (pe_lst (pa_cons (pv 2) (pa_cons (pv 3) pa_nil))) (nomark _)) (pw_or (pt_not (pt_val (pe_callB (r := rIsi K) call_isi (by rfl) T.n_isinstance b_isinstance (pa_cons (pv 6) (pa_cons (pe_bltn (v := .ty "bool") (by rfl) T.n_bool b_bool rfl) pa_nil))))) (pw_or1 (pt_cmpR op_ne (pv 6) (pe_call (E := E) C_law_safe.ok (hr.mono (by decide)) rfl C_law_safe.mgx C_law_safe.kp C_law_safe.bd .nil (passes_call tk (fun _ _ _ _ h => h)) (pa_cons (pv 0) (pa_cons (pv 1) (pa_cons (pv 2) (pa_cons (pv 3) pa_nil))))) (nomark _)))))) (pss_cons (ps_ret pe_bl)
     pss_nil) pss_nil)
     (pss_cons (ps_if (PW.pt (pw_and (pt_val (pv 6)) (pw_and1 (pt_val (pv 4))))) (pss_cons (ps_ret pe_bl)
     pss_nil) pss_nil)
     (pss_cons (ps_if (pt_not (pt_val (pe_call (E := E) C_law_usable.ok (hr.mono (by decide)) rfl C_law_usable.mgx C_law_usable.kp C_law_usable.bd .nil (passes_call tk (fun _ _ _ _ h => h)) (pa_cons (pv 0) (pa_cons (pv 1) (pa_cons (pv 3) pa_nil)))))) (pss_cons (ps_ret (pe_cmpR op_eq (pe_call (E := E) C_law_error.ok (hr.mono (by decide)) rfl C_law_error.mgx C_law_error.kp C_law_error.bd .nil (passes_call tk (fun _ _ _ _ h => h)) (pa_cons pe_int (pa_cons (pv 0) (pa_cons (pv 1) (pa_cons (pv 2) (pa_cons (pe_callTy (r := rLi K) call_list_of (by rfl) T.n_list b_list (pa_cons (pv 3) pa_nil)) pa_nil)))))) pe_int (nomark _)))
     pss_nil) pss_nil)
     (pss_cons (ps_ret (pe_call (E := E) C_law_same_table.ok (hr.mono (by decide)) rfl C_law_same_table.mgx C_law_same_table.kp C_law_same_table.bd .nil (passes_call tk (fun _ _ _ _ h => h)) (pa_cons (pe_call (E := E) C_driven_table.ok (hr.mono (by decide)) rfl C_driven_table.mgx C_driven_table.kp C_driven_table.bd .nil (passes_call tk (fun _ _ _ _ h => h)) (pa_cons (pv 0) (pa_cons (pv 1) (pa_cons (pe_ix (r := rIxL K) ix_list (pv 5) pe_int (fun _ _ => rfl)) pa_nil)))) (pa_cons (pe_call (E := E) C_law_driven.ok (hr.mono (by decide)) rfl C_law_driven.mgx C_law_driven.kp C_law_driven.bd .nil (passes_call tk (fun _ _ _ _ h => h)) (pa_cons (pv 0) (pa_cons (pv 1) (pa_cons (pv 3) pa_nil)))) pa_nil))))
     pss_nil)))))), ?_⟩
    have hs : Hs ⟨H, G, E, cl⟩ G [] H := Hs.start hg
    have hm := Wp.ofSp (G0 := G) hm
    dsimp only at hm
    unfold m_law_right_moves at hm
    refine (show (_ : TS) _ ([some v_p_table, some (.int p_drivers), some v_p_bad, some v_p_moves, some (.bl p_lost), none, none] : L2.St) _ from ?_)
    refine w_asg (K := K) (tg_name (i := 5) (R := (rK (rK (rO zI))))) (EvN.evK (e_lst (l_cons (e_mapSome nn_I (EvN.evK (n_list sq_K (e_var (K := K) (i := 2) (R := (rK zI)) (x := p_bad) rfl h_p_bad)))) (l_cons (EvN.evK (n_list sq_K (e_var (K := K) (i := 3) (R := (rK (rO zI))) (x := p_moves) rfl h_p_moves))) l_nil)) (by decide))) hs hm (fun p_passed vv1 G1 H1 e1 hs hv1 hm => ?_)
    obtain ⟨v_p_passed, rfl, h_p_passed⟩ := hv1
    have h_p_table := ((rP (rsC zI (rsC zI (rs1 (rT (rT (rP (rsC zI (rs1 zI)))))))))).mono e1 h_p_table
    have h_p_bad := ((rK zI)).mono e1 h_p_bad
    have h_p_moves := ((rK (rO zI))).mono e1 h_p_moves
    refine (show (_ : TS) _ ([some v_p_table, some (.int p_drivers), some v_p_bad, some v_p_moves, some (.bl p_lost), some v_p_passed, none] : L2.St) _ from ?_)
    refine w_asg (K := K) (tg_name (i := 6) (R := rB)) (e_call (fm := ⟨H, G, E, cl⟩) (a_cons (e_var (K := K) (i := 0) (R := (rP (rsC zI (rsC zI (rs1 (rT (rT (rP (rsC zI (rs1 zI)))))))))) (x := p_table) rfl h_p_table) (a_cons (e_var (K := K) (i := 1) (R := zI) (x := p_drivers) rfl rfl) (a_cons (e_mapGet (e_ixL (e_KL (e_var (K := K) (i := 5) (R := (rK (rK (rO zI)))) (x := p_passed) rfl h_p_passed)) e_int)) (a_one (e_ixL (e_KL (e_var (K := K) (i := 5) (R := (rK (rK (rO zI)))) (x := p_passed) rfl h_p_passed)) e_int)))))) hs hm (fun p_actual vv2 G2 H2 e2 hs hv2 hm => ?_)
    obtain ⟨v_p_actual, rfl, h_p_actual⟩ := hv2
    cases (show v_p_actual = V.bl p_actual from h_p_actual)
    have h_p_table := ((rP (rsC zI (rsC zI (rs1 (rT (rT (rP (rsC zI (rs1 zI)))))))))).mono e2 h_p_table
    have h_p_bad := ((rK zI)).mono e2 h_p_bad
    have h_p_moves := ((rK (rO zI))).mono e2 h_p_moves
    have h_p_passed := ((rK (rK (rO zI)))).mono e2 h_p_passed
    refine (show (_ : TS) _ ([some v_p_table, some (.int p_drivers), some v_p_bad, some v_p_moves, some (.bl p_lost), some v_p_passed, some (.bl p_actual)] : L2.St) _ from ?_)
    refine w_if (t_or (t_test (K := K) (e_neD (qK (qK (qO qI rfl))) (by decide) (e_var (K := K) (i := 5) (R := (rK (rK (rO zI)))) (x := p_passed) rfl h_p_passed) (EvN.evK (e_lst (l_cons (e_mapSome nn_I (e_var (K := K) (i := 2) (R := (rK zI)) (x := p_bad) rfl h_p_bad)) (l_cons (e_var (K := K) (i := 3) (R := (rK (rO zI))) (x := p_moves) rfl h_p_moves) l_nil)) (by decide))))) (t_or (t_not (t_val (K := K) (e_isi (g := fun _ => true) ty_B (fun _ => by decide +kernel) (e_var (K := K) (i := 6) (R := rB) (x := p_actual) rfl rfl)))) (t_test (K := K) (e_ne srB (e_var (K := K) (i := 6) (R := rB) (x := p_actual) rfl rfl) (e_call (fm := ⟨H, G, E, cl⟩) (a_cons (e_var (K := K) (i := 0) (R := (rP (rsC zI (rsC zI (rs1 (rT (rT (rP (rsC zI (rs1 zI)))))))))) (x := p_table) rfl h_p_table) (a_cons (e_var (K := K) (i := 1) (R := zI) (x := p_drivers) rfl rfl) (a_cons (e_var (K := K) (i := 2) (R := (rK zI)) (x := p_bad) rfl h_p_bad) (a_one (e_var (K := K) (i := 3) (R := (rK (rO zI))) (x := p_moves) rfl h_p_moves)))))))))) hs hm (fun G3 H3 e3 hs hm => ?_) (fun G3 H3 e3 hs hm => ?_)
    · have h_p_table := ((rP (rsC zI (rsC zI (rs1 (rT (rT (rP (rsC zI (rs1 zI)))))))))).mono e3 h_p_table
      have h_p_bad := ((rK zI)).mono e3 h_p_bad
      have h_p_moves := ((rK (rO zI))).mono e3 h_p_moves
      have h_p_passed := ((rK (rK (rO zI)))).mono e3 h_p_passed
      exact w_ret0 (K := K) e_bl hs hm fun r v G2 H2 hs2 hr2 hq => hq v G2 H2 hs2.fin hr2
    · have h_p_table := ((rP (rsC zI (rsC zI (rs1 (rT (rT (rP (rsC zI (rs1 zI)))))))))).mono e3 h_p_table
      have h_p_bad := ((rK zI)).mono e3 h_p_bad
      have h_p_moves := ((rK (rO zI))).mono e3 h_p_moves
      have h_p_passed := ((rK (rK (rO zI)))).mono e3 h_p_passed
      refine nx_of ?_
      refine (show (_ : TS) _ ([some v_p_table, some (.int p_drivers), some v_p_bad, some v_p_moves, some (.bl p_lost), some v_p_passed, some (.bl p_actual)] : L2.St) _ from ?_)
      refine w_if (t_and (t_val (K := K) (e_var (K := K) (i := 6) (R := rB) (x := p_actual) rfl rfl)) (t_val (K := K) (e_var (K := K) (i := 4) (R := rB) (x := p_lost) rfl rfl))) hs hm (fun G4 H4 e4 hs hm => ?_) (fun G4 H4 e4 hs hm => ?_)
      · have h_p_table := ((rP (rsC zI (rsC zI (rs1 (rT (rT (rP (rsC zI (rs1 zI)))))))))).mono e4 h_p_table
        have h_p_bad := ((rK zI)).mono e4 h_p_bad
        have h_p_moves := ((rK (rO zI))).mono e4 h_p_moves
        have h_p_passed := ((rK (rK (rO zI)))).mono e4 h_p_passed
        exact w_ret0 (K := K) e_bl hs hm fun r v G2 H2 hs2 hr2 hq => hq v G2 H2 hs2.fin hr2
      · have h_p_table := ((rP (rsC zI (rsC zI (rs1 (rT (rT (rP (rsC zI (rs1 zI)))))))))).mono e4 h_p_table
        have h_p_bad := ((rK zI)).mono e4 h_p_bad
        have h_p_moves := ((rK (rO zI))).mono e4 h_p_moves
        have h_p_passed := ((rK (rK (rO zI)))).mono e4 h_p_passed
        refine nx_of ?_
        refine (show (_ : TS) _ ([some v_p_table, some (.int p_drivers), some v_p_bad, some v_p_moves, some (.bl p_lost), some v_p_passed, some (.bl p_actual)] : L2.St) _ from ?_)
        refine w_if (t_not (t_val (K := K) (e_call (fm := ⟨H, G, E, cl⟩) (a_cons (e_var (K := K) (i := 0) (R := (rP (rsC zI (rsC zI (rs1 (rT (rT (rP (rsC zI (rs1 zI)))))))))) (x := p_table) rfl h_p_table) (a_cons (e_var (K := K) (i := 1) (R := zI) (x := p_drivers) rfl rfl) (a_one (e_var (K := K) (i := 3) (R := (rK (rO zI))) (x := p_moves) rfl h_p_moves))))))) hs hm (fun G5 H5 e5 hs hm => ?_) (fun G5 H5 e5 hs hm => ?_)
        · have h_p_table := ((rP (rsC zI (rsC zI (rs1 (rT (rT (rP (rsC zI (rs1 zI)))))))))).mono e5 h_p_table
          have h_p_bad := ((rK zI)).mono e5 h_p_bad
          have h_p_moves := ((rK (rO zI))).mono e5 h_p_moves
          have h_p_passed := ((rK (rK (rO zI)))).mono e5 h_p_passed
          exact w_ret0 (K := K) (e_eq srI (e_call (fm := ⟨H, G, E, cl⟩) (a_cons e_int (a_cons (e_var (K := K) (i := 0) (R := (rP (rsC zI (rsC zI (rs1 (rT (rT (rP (rsC zI (rs1 zI)))))))))) (x := p_table) rfl h_p_table) (a_cons (e_var (K := K) (i := 1) (R := zI) (x := p_drivers) rfl rfl) (a_cons (e_var (K := K) (i := 2) (R := (rK zI)) (x := p_bad) rfl h_p_bad) (a_one (EvN.evK (n_list sq_K (e_var (K := K) (i := 3) (R := (rK (rO zI))) (x := p_moves) rfl h_p_moves))))))))) e_int) hs hm fun r v G2 H2 hs2 hr2 hq => hq v G2 H2 hs2.fin hr2
        · have h_p_table := ((rP (rsC zI (rsC zI (rs1 (rT (rT (rP (rsC zI (rs1 zI)))))))))).mono e5 h_p_table
          have h_p_bad := ((rK zI)).mono e5 h_p_bad
          have h_p_moves := ((rK (rO zI))).mono e5 h_p_moves
          have h_p_passed := ((rK (rK (rO zI)))).mono e5 h_p_passed
          refine nx_of ?_
          refine (show (_ : TS) _ ([some v_p_table, some (.int p_drivers), some v_p_bad, some v_p_moves, some (.bl p_lost), some v_p_passed, some (.bl p_actual)] : L2.St) _ from ?_)
          exact w_ret0 (K := K) (e_call (fm := ⟨H, G, E, cl⟩) (a_cons (e_call (fm := ⟨H, G, E, cl⟩) (a_cons (e_var (K := K) (i := 0) (R := (rP (rsC zI (rsC zI (rs1 (rT (rT (rP (rsC zI (rs1 zI)))))))))) (x := p_table) rfl h_p_table) (a_cons (e_var (K := K) (i := 1) (R := zI) (x := p_drivers) rfl rfl) (a_one (e_ixL (e_KL (e_var (K := K) (i := 5) (R := (rK (rK (rO zI)))) (x := p_passed) rfl h_p_passed)) e_int))))) (a_one (e_call (fm := ⟨H, G, E, cl⟩) (a_cons (e_var (K := K) (i := 0) (R := (rP (rsC zI (rsC zI (rs1 (rT (rT (rP (rsC zI (rs1 zI)))))))))) (x := p_table) rfl h_p_table) (a_cons (e_var (K := K) (i := 1) (R := zI) (x := p_drivers) rfl rfl) (a_one (e_var (K := K) (i := 3) (R := (rK (rO zI))) (x := p_moves) rfl h_p_moves)))))))) hs hm fun r v G2 H2 hs2 hr2 hq => hq v G2 H2 hs2.fin hr2

theorem ok_law_right_rounds {P : Program} {w : World} {K : PySem.W.Frag} {mg : Str → Option Value} {base : Heap} {cl : Nat → Addr} {fa : Addr} {fd : FuncData} (F : Fun K "_law_right_rounds" "_law_right_rounds" s_law_right_rounds fa fd) (T : Txt K mg cl) (C_shows_lost : Cal P w K mg base "shows_lost" 2 ["table", "driver_count", "bad", "rounds"] (spP K cl (rsC (rP (rsC zI (rsC zI (rs1 (rT (rT (rP (rsC zI (rs1 zI))))))))) (rsC zI (rsC (rK zI) (rs1 (rK (rO zI)))))) rB (fun a => m_shows_lost (a.1) (a.2.1) (a.2.2.1) (a.2.2.2)))) (C_law_lost : Cal P w K mg base "_law_lost" 2 ["table", "drivers", "bad", "rounds"] (spP K cl (rsC (rP (rsC zI (rsC zI (rs1 (rT (rT (rP (rsC zI (rs1 zI))))))))) (rsC zI (rsC (rK zI) (rs1 (rK (rO zI)))))) rB (fun a => m_law_lost (a.1) (a.2.1) (a.2.2.1) (a.2.2.2)))) :
    FnOk P w K mg base (L2.CX P w) 3 fa fd ["table", "drivers", "bad", "rounds", "lost"] (spP K cl (rsC (rP (rsC zI (rsC zI (rs1 (rT (rT (rP (rsC zI (rs1 zI))))))))) (rsC zI (rsC (rK zI) (rsC (rK (rO zI)) (rs1 rB))))) rB (fun a => m_law_right_rounds (a.1) (a.2.1) (a.2.2.1) (a.2.2.2.1) (a.2.2.2.2))) := by
  refine F.okX sc_law_right_rounds (fun vs H Q E h => ?_) (fun cdv A outer s H vs Q E hr h => ?_)
  · obtain ⟨G, a, _, hS, _⟩ := h
    exact (lnC (lnC (lnC (lnC ln1)))) _ _ _ _ hS
  · obtain ⟨G, ⟨p_table, p_drivers, p_bad, p_rounds, p_lost⟩, hg, hS, hm⟩ := h
    obtain ⟨v_p_table, _, rfl, h_p_table, v_p_drivers, _, rfl, h_p_drivers, v_p_bad, _, rfl, h_p_bad, v_p_rounds, _, rfl, h_p_rounds, v_p_lost, rfl, h_p_lost⟩ := hS
    cases (show v_p_drivers = V.int p_drivers from h_p_drivers)
    cases (show v_p_lost = V.bl p_lost from h_p_lost)
    have tk : Takes (cxOf (L2.CX P w) P w K mg base N_law_right_rounds "_law_right_rounds" (defScope s_law_right_rounds) fa cdv A outer s H E) (fun cls d _ H => E cls d H) := takes_of rfl rfl rfl rfl
    refine ⟨_, (pss_cons (ps_set (i := 5) sc_law_right_rounds.nd rfl (by first | exact Or.inl rfl | exact Or.inr rfl) (pe_lst (pa_cons (pe_callTy (r := rLi K) call_list_of (by rfl) T.n_list b_list (pa_cons (pv 2) pa_nil)) (pa_cons (pe_callTy (r := rLi K) call_list_of (by rfl) T.n_list b_list (pa_cons (pv 3) pa_nil)) pa_nil))))
     (pss_cons (ps_set (i := 6) sc_law_right_rounds.nd rfl (by first | exact Or.inl rfl | exact Or.inr rfl) (pe_call (E := E) C_shows_lost.ok (hr.mono (by decide)) rfl C_shows_lost.mgx C_shows_lost.kp C_shows_lost.bd .nil (passes_call tk (fun _ _ _ _ h => h)) (pa_cons (pv 0) (pa_cons (pv 1) (pa_cons (pe_ix (r := rIxL K) ix_list (pv 5) pe_int (fun _ _ => rfl)) (pa_cons (pe_ix (r := rIxL K) ix_list (pv 5) pe_int (fun _ _ => rfl)) pa_nil))))))
     (pss_cons (ps_if (PW.pt (pw_or (pt_cmpR (r := rNeD K) (op_neD hr.units) (pv 5) (pe_lst (pa_cons (pv 2) (pa_cons (pv 3) pa_nil))) (nomark _)) (pw_or (pt_not (pt_val (pe_callB (r := rIsi K) call_isi (by rfl) T.n_isinstance b_isinstance (pa_cons (pv 6) (pa_cons (pe_bltn (v := .ty "bool") (by rfl) T.n_bool b_bool rfl) pa_nil))))) (pw_or1 (pt_cmpR op_ne (pv 6) (pe_call (E := E) C_law_lost.ok (hr.mono (by decide)) rfl C_law_lost.mgx C_law_lost.kp C_law_lost.bd .nil (passes_call tk (fun _ _ _ _ h => h)) (pa_cons (pv 0) (pa_cons (pv 1) (pa_cons (pv 2) (pa_cons (pv 3) pa_nil))))) (nomark _)))))) (pss_cons (ps_ret pe_bl)
     pss_nil) pss_nil)
     (pss_cons (ps_ret (pe_or (pv 4) (pe_one (pe_not (pv 6)))))
     pss_nil)))), ?_⟩
    have hs : Hs ⟨H, G, E, cl⟩ G [] H := Hs.start hg
    have hm := Wp.ofSp (G0 := G) hm
    dsimp only at hm
    unfold m_law_right_rounds at hm
    refine (show (_ : TS) _ ([some v_p_table, some (.int p_drivers), some v_p_bad, some v_p_rounds, some (.bl p_lost), none, none] : L2.St) _ from ?_)
    refine w_asg (K := K) (tg_name (i := 5) (R := (rK (rK (rO zI))))) (EvN.evK (e_lst (l_cons (e_mapSome nn_I (EvN.evK (n_list sq_K (e_var (K := K) (i := 2) (R := (rK zI)) (x := p_bad) rfl h_p_bad)))) (l_cons (EvN.evK (n_list sq_K (e_var (K := K) (i := 3) (R := (rK (rO zI))) (x := p_rounds) rfl h_p_rounds))) l_nil)) (by decide))) hs hm (fun p_passed vv1 G1 H1 e1 hs hv1 hm => ?_)
    obtain ⟨v_p_passed, rfl, h_p_passed⟩ := hv1
    have h_p_table := ((rP (rsC zI (rsC zI (rs1 (rT (rT (rP (rsC zI (rs1 zI)))))))))).mono e1 h_p_table
    have h_p_bad := ((rK zI)).mono e1 h_p_bad
    have h_p_rounds := ((rK (rO zI))).mono e1 h_p_rounds
    refine (show (_ : TS) _ ([some v_p_table, some (.int p_drivers), some v_p_bad, some v_p_rounds, some (.bl p_lost), some v_p_passed, none] : L2.St) _ from ?_)
    refine w_asg (K := K) (tg_name (i := 6) (R := rB)) (e_call (fm := ⟨H, G, E, cl⟩) (a_cons (e_var (K := K) (i := 0) (R := (rP (rsC zI (rsC zI (rs1 (rT (rT (rP (rsC zI (rs1 zI)))))))))) (x := p_table) rfl h_p_table) (a_cons (e_var (K := K) (i := 1) (R := zI) (x := p_drivers) rfl rfl) (a_cons (e_mapGet (e_ixL (e_KL (e_var (K := K) (i := 5) (R := (rK (rK (rO zI)))) (x := p_passed) rfl h_p_passed)) e_int)) (a_one (e_ixL (e_KL (e_var (K := K) (i := 5) (R := (rK (rK (rO zI)))) (x := p_passed) rfl h_p_passed)) e_int)))))) hs hm (fun p_actual vv2 G2 H2 e2 hs hv2 hm => ?_)
    obtain ⟨v_p_actual, rfl, h_p_actual⟩ := hv2
    cases (show v_p_actual = V.bl p_actual from h_p_actual)
    have h_p_table := ((rP (rsC zI (rsC zI (rs1 (rT (rT (rP (rsC zI (rs1 zI)))))))))).mono e2 h_p_table
    have h_p_bad := ((rK zI)).mono e2 h_p_bad
    have h_p_rounds := ((rK (rO zI))).mono e2 h_p_rounds
    have h_p_passed := ((rK (rK (rO zI)))).mono e2 h_p_passed
    refine (show (_ : TS) _ ([some v_p_table, some (.int p_drivers), some v_p_bad, some v_p_rounds, some (.bl p_lost), some v_p_passed, some (.bl p_actual)] : L2.St) _ from ?_)
    refine w_if (t_or (t_test (K := K) (e_neD (qK (qK (qO qI rfl))) (by decide) (e_var (K := K) (i := 5) (R := (rK (rK (rO zI)))) (x := p_passed) rfl h_p_passed) (EvN.evK (e_lst (l_cons (e_mapSome nn_I (e_var (K := K) (i := 2) (R := (rK zI)) (x := p_bad) rfl h_p_bad)) (l_cons (e_var (K := K) (i := 3) (R := (rK (rO zI))) (x := p_rounds) rfl h_p_rounds) l_nil)) (by decide))))) (t_or (t_not (t_val (K := K) (e_isi (g := fun _ => true) ty_B (fun _ => by decide +kernel) (e_var (K := K) (i := 6) (R := rB) (x := p_actual) rfl rfl)))) (t_test (K := K) (e_ne srB (e_var (K := K) (i := 6) (R := rB) (x := p_actual) rfl rfl) (e_call (fm := ⟨H, G, E, cl⟩) (a_cons (e_var (K := K) (i := 0) (R := (rP (rsC zI (rsC zI (rs1 (rT (rT (rP (rsC zI (rs1 zI)))))))))) (x := p_table) rfl h_p_table) (a_cons (e_var (K := K) (i := 1) (R := zI) (x := p_drivers) rfl rfl) (a_cons (e_var (K := K) (i := 2) (R := (rK zI)) (x := p_bad) rfl h_p_bad) (a_one (e_var (K := K) (i := 3) (R := (rK (rO zI))) (x := p_rounds) rfl h_p_rounds)))))))))) hs hm (fun G3 H3 e3 hs hm => ?_) (fun G3 H3 e3 hs hm => ?_)
    · have h_p_table := ((rP (rsC zI (rsC zI (rs1 (rT (rT (rP (rsC zI (rs1 zI)))))))))).mono e3 h_p_table
      have h_p_bad := ((rK zI)).mono e3 h_p_bad
      have h_p_rounds := ((rK (rO zI))).mono e3 h_p_rounds
      have h_p_passed := ((rK (rK (rO zI)))).mono e3 h_p_passed
      exact w_ret0 (K := K) e_bl hs hm fun r v G2 H2 hs2 hr2 hq => hq v G2 H2 hs2.fin hr2
    · have h_p_table := ((rP (rsC zI (rsC zI (rs1 (rT (rT (rP (rsC zI (rs1 zI)))))))))).mono e3 h_p_table
      have h_p_bad := ((rK zI)).mono e3 h_p_bad
      have h_p_rounds := ((rK (rO zI))).mono e3 h_p_rounds
      have h_p_passed := ((rK (rK (rO zI)))).mono e3 h_p_passed
      refine nx_of ?_
      refine (show (_ : TS) _ ([some v_p_table, some (.int p_drivers), some v_p_bad, some v_p_rounds, some (.bl p_lost), some v_p_passed, some (.bl p_actual)] : L2.St) _ from ?_)
      exact w_ret0 (K := K) (e_or (e_var (K := K) (i := 4) (R := rB) (x := p_lost) rfl rfl) (e_not (e_var (K := K) (i := 6) (R := rB) (x := p_actual) rfl rfl))) hs hm fun r v G2 H2 hs2 hr2 hq => hq v G2 H2 hs2.fin hr2

theorem ok_law {P : Program} {w : World} {K : PySem.W.Frag} {mg : Str → Option Value} {base : Heap} {cl : Nat → Addr} {fa : Addr} {fd : FuncData} (F : Fun K "law" "law" s_law fa fd) (T : Txt K mg cl) (C_law_parts : Cal P w K mg base "_law_parts" 1 ["cell", "sizes"] (spP K cl (rsC zI (rs1 (rK zI))) (rK zI) (fun a => m_law_parts (a.1) (a.2)))) (C_law_far : Cal P w K mg base "_law_far" 1 ["script", "k"] (spP K cl (rsC (rL zI) (rs1 zI)) zI (fun a => m_law_far (a.1) (a.2)))) (C_law_drawn : Cal P w K mg base "_law_drawn" 2 ["script", "at", "inputs", "outputs", "states"] (spP K cl (rsC (rL zI) (rsC zI (rsC zI (rsC zI (rs1 zI))))) (rP (rsC zI (rsC zI (rs1 (rT (rT (rP (rsC zI (rs1 zI))))))))) (fun a => m_law_drawn (a.1) (a.2.1) (a.2.2.1) (a.2.2.2.1) (a.2.2.2.2)))) (C_law_rounds : Cal P w K mg base "_law_rounds" 2 ["table", "drivers", "bad"] (spP K cl (rsC (rP (rsC zI (rsC zI (rs1 (rT (rT (rP (rsC zI (rs1 zI))))))))) (rsC zI (rs1 (rK zI)))) (rK (rO zI)) (fun a => m_law_rounds (a.1) (a.2.1) (a.2.2)))) (C_law_moves : Cal P w K mg base "_law_moves" 2 ["table", "drivers", "bad", "rounds"] (spP K cl (rsC (rP (rsC zI (rsC zI (rs1 (rT (rT (rP (rsC zI (rs1 zI))))))))) (rsC zI (rsC (rK zI) (rs1 (rK (rO zI)))))) (rK (rO zI)) (fun a => m_law_moves (a.1) (a.2.1) (a.2.2.1) (a.2.2.2)))) (C_play_game : Cal P w K mg base "play_game" 4 ["table", "driver_count", "bad"] (spPF K cl (rsC (rP (rsC zI (rsC zI (rs1 (rT (rT (rP (rsC zI (rs1 zI))))))))) (rsC zI (rs1 (rK zI)))) (fun H => (rP (rsC rS (rs1 (rF H (rO zI)))))) (fun a => m_play_game (a.1) (a.2.1) (a.2.2)))) (C_law_same_told : Cal P w K mg base "_law_same_told" 2 ["actual", "kind", "expected"] (spP K cl (rsC (rP (rsC rS (rs1 (rK (rO zI))))) (rsC rS (rs1 (rK (rO zI))))) rB (fun a => m_law_same_told (a.1) (a.2.1) (a.2.2)))) (C_law_safe : Cal P w K mg base "_law_safe" 3 ["table", "drivers", "bad", "moves"] (spP K cl (rsC (rP (rsC zI (rsC zI (rs1 (rT (rT (rP (rsC zI (rs1 zI))))))))) (rsC zI (rsC (rK zI) (rs1 (rK (rO zI)))))) rB (fun a => m_law_safe (a.1) (a.2.1) (a.2.2.1) (a.2.2.2)))) (C_law_lost : Cal P w K mg base "_law_lost" 2 ["table", "drivers", "bad", "rounds"] (spP K cl (rsC (rP (rsC zI (rsC zI (rs1 (rT (rT (rP (rsC zI (rs1 zI))))))))) (rsC zI (rsC (rK zI) (rs1 (rK (rO zI)))))) rB (fun a => m_law_lost (a.1) (a.2.1) (a.2.2.1) (a.2.2.2)))) (C_law_changed : Cal P w K mg base "_law_changed" 1 ["numbers", "which", "place", "one"] (spP K cl (rsC (rK (rO zI)) (rsC zI (rsC zI (rs1 zI)))) (rK (rO zI)) (fun a => m_law_changed (a.1) (a.2.1) (a.2.2.1) (a.2.2.2)))) (C_law_right_moves : Cal P w K mg base "_law_right_moves" 6 ["table", "drivers", "bad", "moves", "lost"] (spP K cl (rsC (rP (rsC zI (rsC zI (rs1 (rT (rT (rP (rsC zI (rs1 zI))))))))) (rsC zI (rsC (rK zI) (rsC (rK (rO zI)) (rs1 rB))))) rB (fun a => m_law_right_moves (a.1) (a.2.1) (a.2.2.1) (a.2.2.2.1) (a.2.2.2.2)))) (C_law_right_rounds : Cal P w K mg base "_law_right_rounds" 3 ["table", "drivers", "bad", "rounds", "lost"] (spP K cl (rsC (rP (rsC zI (rsC zI (rs1 (rT (rT (rP (rsC zI (rs1 zI))))))))) (rsC zI (rsC (rK zI) (rsC (rK (rO zI)) (rs1 rB))))) rB (fun a => m_law_right_rounds (a.1) (a.2.1) (a.2.2.1) (a.2.2.2.1) (a.2.2.2.2)))) (C_law_error : Cal P w K mg base "_law_error" 5 ["which", "table", "drivers", "bad", "items"] (spP K cl (rsC zI (rsC (rP (rsC zI (rsC zI (rs1 (rT (rT (rP (rsC zI (rs1 zI))))))))) (rsC zI (rsC (rK zI) (rs1 (rK (rO zI))))))) zI (fun a => m_law_error (a.1) (a.2.1) (a.2.2.1) (a.2.2.2.1) (a.2.2.2.2)))) (C_law_chained : Cal P w K mg base "_law_chained" 2 ["table", "drivers", "cell"] (spP K cl (rsC (rP (rsC zI (rsC zI (rs1 (rT (rT (rP (rsC zI (rs1 zI))))))))) (rsC zI (rs1 zI))) (rP (rsC zI (rsC zI (rs1 (rT (rT (rP (rsC zI (rs1 zI))))))))) (fun a => m_law_chained (a.1) (a.2.1) (a.2.2)))) :
    FnOk P w K mg base (L2.CX P w) 7 fa fd ["script"] (spP K cl (rs1 (rL zI)) rB (fun a => m_law a)) := by
  refine F.okX sc_law (fun vs H Q E h => ?_) (fun cdv A outer s H vs Q E hr h => ?_)
  · obtain ⟨G, a, _, hS, _⟩ := h
    exact ln1 _ _ _ _ hS
  · obtain ⟨G, p_script, hg, hS, hm⟩ := h
    obtain ⟨v_p_script, rfl, h_p_script⟩ := hS
    have tk : Takes (cxOf (L2.CX P w) P w K mg base N_law "law" (defScope s_law) fa cdv A outer s H E) (fun cls d _ H => E cls d H) := takes_of rfl rfl rfl rfl
    refine ⟨_, (pss_cons (ps_set (i := 1) sc_law.nd rfl (by first | exact Or.inl rfl | exact Or.inr rfl) (pe_call (E := E) C_law_parts.ok (hr.mono (by decide)) rfl C_law_parts.mgx C_law_parts.kp C_law_parts.bd .nil (passes_call tk (fun _ _ _ _ h => h)) (pa_cons (pe_call (E := E) C_law_far.ok (hr.mono (by decide)) rfl C_law_far.mgx C_law_far.kp C_law_far.bd .nil (passes_call tk (fun _ _ _ _ h => h)) (pa_cons (pv 0) (pa_cons pe_int pa_nil))) (pa_cons (pe_lst (pa_cons pe_int (pa_cons pe_int (pa_cons pe_int (pa_cons pe_int (pa_cons pe_int (pa_cons pe_int (pa_cons pe_int (pa_cons pe_int (pa_cons pe_int (pa_cons pe_int (pa_cons pe_int (pa_cons pe_int (pa_cons pe_int pa_nil)))))))))))))) pa_nil))))
     (pss_cons (ps_set (i := 2) sc_law.nd rfl (by first | exact Or.inl rfl | exact Or.inr rfl) (pe_ix (r := rIxL K) ix_list (pe_lst (pa_cons pe_int (pa_cons pe_int (pa_cons pe_int (pa_cons pe_int (pa_cons pe_int pa_nil)))))) (pe_ix (r := rIxL K) ix_list (pv 1) pe_int (fun _ _ => rfl)) (fun _ _ => rfl)))
     (pss_cons (ps_set (i := 3) sc_law.nd rfl (by first | exact Or.inl rfl | exact Or.inr rfl) (pe_op op_mod (pe_callTy call_int1 (by rfl) T.n_int b_int (pa_cons (pe_ix (r := rIxL K) ix_list (pv 1) pe_int (fun _ _ => rfl)) pa_nil)) (pe_op op_add (pv 2) pe_int)))
     (pss_cons (ps_set (i := 4) sc_law.nd rfl (by first | exact Or.inl rfl | exact Or.inr rfl) (pe_op op_add pe_int (pe_op op_mod (pe_callTy call_int1 (by rfl) T.n_int b_int (pa_cons (pe_ix (r := rIxL K) ix_list (pv 1) pe_int (fun _ _ => rfl)) pa_nil)) (pe_ix (r := rIxL K) ix_list (pe_lst (pa_cons pe_int (pa_cons pe_int pa_nil))) (pe_callTy call_int1 (by rfl) T.n_int b_int (pa_cons (pe_cmpR op_eq (pe_ix (r := rIxL K) ix_list (pv 1) pe_int (fun _ _ => rfl)) pe_int (nomark _)) pa_nil)) (fun _ _ => rfl)))))
     (pss_cons (ps_set (i := 5) sc_law.nd rfl (by first | exact Or.inl rfl | exact Or.inr rfl) (pe_call (E := E) C_law_drawn.ok (hr.mono (by decide)) rfl C_law_drawn.mgx C_law_drawn.kp C_law_drawn.bd .nil (passes_call tk (fun _ _ _ _ h => h)) (pa_cons (pv 0) (pa_cons pe_int (pa_cons (pv 2) (pa_cons (pe_op op_add pe_int (pe_ix (r := rIxL K) ix_list (pv 1) pe_int (fun _ _ => rfl))) (pa_cons (pv 4) pa_nil)))))))
     (pss_cons (ps_if (pt_cmpR op_eq (pe_ix (r := rIxL K) ix_list (pv 1) pe_int (fun _ _ => rfl)) pe_int (nomark _)) (pss_cons (ps_set (i := 5) sc_law.nd rfl (by first | exact Or.inl rfl | exact Or.inr rfl) (pe_call (E := E) C_law_chained.ok (hr.mono (by decide)) rfl C_law_chained.mgx C_law_chained.kp C_law_chained.bd .nil (passes_call tk (fun _ _ _ _ h => h)) (pa_cons (pv 5) (pa_cons (pv 3) (pa_cons (pe_call (E := E) C_law_far.ok (hr.mono (by decide)) rfl C_law_far.mgx C_law_far.kp C_law_far.bd .nil (passes_call tk (fun _ _ _ _ h => h)) (pa_cons (pv 0) (pa_cons pe_int pa_nil))) pa_nil)))))
     pss_nil) pss_nil)
     (pss_cons (ps_set (i := 6) sc_law.nd rfl (by first | exact Or.inl rfl | exact Or.inr rfl) (pe_slice (r := rSlL K) sl_list (pe_lc (own := [("number", 20)]) rfl sc_law.nd (pi_list (pe_slice (r := rSlL K) sl_list (pv 1) (po_some pe_int) (po_some pe_int))) (blkOk_by (own := [("number", 20)]) (N := N_law) (sc := defScope s_law) (by decide +kernel)) (fun _ _ _ _ _ => (pg_name (i := 20) sc_law.nd rfl (by first | exact Or.inl rfl | exact Or.inr rfl))) (fun _ _ _ _ _ => pts_nil) (fun _ _ _ _ _ => (pe_op op_mod (pe_callTy call_int1 (by rfl) T.n_int b_int (pa_cons (pv 20) pa_nil)) (pe_op op_shl pe_int (pe_ix (r := rIxT K) ix_tup (pv 5) pe_int (fun _ _ => rfl)))))) po_none (po_some (pe_ix (r := rIxL K) ix_list (pv 1) pe_int (fun _ _ => rfl)))))
     (pss_cons (ps_if (pt_cmpR op_eq (pe_ix (r := rIxL K) ix_list (pv 1) pe_int (fun _ _ => rfl)) pe_int (nomark _)) (pss_cons (ps_set (i := 6) sc_law.nd rfl (by first | exact Or.inl rfl | exact Or.inr rfl) (pe_op op_cat (pe_op op_cat (pv 6) (pe_slice (r := rSlL K) sl_list (pv 6) po_none (po_some pe_int))) (pe_lst (pa_cons pe_int pa_nil))))
     pss_nil) pss_nil)
     (pss_cons (ps_set (i := 7) sc_law.nd rfl (by first | exact Or.inl rfl | exact Or.inr rfl) (pe_call (E := E) C_law_rounds.ok (hr.mono (by decide)) rfl C_law_rounds.mgx C_law_rounds.kp C_law_rounds.bd .nil (passes_call tk (fun _ _ _ _ h => h)) (pa_cons (pv 5) (pa_cons (pv 3) (pa_cons (pv 6) pa_nil)))))
     (pss_cons (ps_set (i := 8) sc_law.nd rfl (by first | exact Or.inl rfl | exact Or.inr rfl) (pe_call (E := E) C_law_moves.ok (hr.mono (by decide)) rfl C_law_moves.mgx C_law_moves.kp C_law_moves.bd .nil (passes_call tk (fun _ _ _ _ h => h)) (pa_cons (pv 5) (pa_cons (pv 3) (pa_cons (pv 6) (pa_cons (pv 7) pa_nil))))))
     (pss_cons (ps_set (i := 9) sc_law.nd rfl (by first | exact Or.inl rfl | exact Or.inr rfl) (pe_cmpR op_notN (pe_ix (r := rIxL K) ix_list (pv 7) pe_int (fun _ _ => rfl)) pe_non (nomark _)))
     (pss_cons (ps_set (i := 10) sc_law.nd rfl (by first | exact Or.inl rfl | exact Or.inr rfl) (pe_ix (r := rIxL K) ix_list (pe_lst (pa_cons pe_str (pa_cons pe_str pa_nil))) (pe_callTy call_int1 (by rfl) T.n_int b_int (pa_cons (pv 9) pa_nil)) (fun _ _ => rfl)))
     (pss_cons (ps_set (i := 11) sc_law.nd rfl (by first | exact Or.inl rfl | exact Or.inr rfl) (pe_ix (r := rIxL K) ix_list (pe_lst (pa_cons (pv 8) (pa_cons (pv 7) pa_nil))) (pe_callTy call_int1 (by rfl) T.n_int b_int (pa_cons (pv 9) pa_nil)) (fun _ _ => rfl)))
     (pss_cons (ps_set (i := 12) sc_law.nd rfl (by first | exact Or.inl rfl | exact Or.inr rfl) (pe_callTy (r := rLi K) call_list_of (by rfl) T.n_list b_list (pa_cons (pv 6) pa_nil)))
     (pss_cons (ps_set (i := 13) sc_law.nd rfl (by first | exact Or.inl rfl | exact Or.inr rfl) (pe_call (E := E) C_play_game.ok (hr.mono (by decide)) rfl C_play_game.mgx C_play_game.kp C_play_game.bd .nil (passes_call tk (fun _ _ _ _ h => h)) (pa_cons (pv 5) (pa_cons (pv 3) (pa_cons (pv 12) pa_nil)))))
     (pss_cons (ps_if (PW.pt (pw_or (pt_cmpR (r := rNeD K) (op_neD hr.units) (pv 12) (pv 6) (nomark _)) (pw_or1 (pt_not (pt_val (pe_call (E := E) C_law_same_told.ok (hr.mono (by decide)) rfl C_law_same_told.mgx C_law_same_told.kp C_law_same_told.bd .nil (passes_call tk (fun _ _ _ _ h => h)) (pa_cons (pv 13) (pa_cons (pv 10) (pa_cons (pv 11) pa_nil))))))))) (pss_cons (ps_ret pe_bl)
     pss_nil) pss_nil)
     (pss_cons (ps_expr (show PE _ _ (tBM K "list" rAppend _ _) from pe_bm PySem.F.plainAttrs_list PySem.F.slot_list_append PySem.F.type_list_append mt_append (pe_ix (r := rIxT K) ix_tup (pv 13) pe_int (fun _ _ => rfl)) (pa_cons pe_int pa_nil)))
     (pss_cons (ps_if (pt_not (pt_val (pe_call (E := E) C_law_same_told.ok (hr.mono (by decide)) rfl C_law_same_told.mgx C_law_same_told.kp C_law_same_told.bd .nil (passes_call tk (fun _ _ _ _ h => h)) (pa_cons (pe_call (E := E) C_play_game.ok (hr.mono (by decide)) rfl C_play_game.mgx C_play_game.kp C_play_game.bd .nil (passes_call tk (fun _ _ _ _ h => h)) (pa_cons (pv 5) (pa_cons (pv 3) (pa_cons (pe_callTy (r := rLi K) call_list_of (by rfl) T.n_list b_list (pa_cons (pv 6) pa_nil)) pa_nil)))) (pa_cons (pv 10) (pa_cons (pv 11) pa_nil)))))) (pss_cons (ps_ret pe_bl)
     pss_nil) pss_nil)
     (pss_cons (ps_if (PW.pt (pw_or (PW.pt (pw_and (pt_not (pt_val (pv 9))) (pw_and1 (pt_not (pt_val (pe_call (E := E) C_law_safe.ok (hr.mono (by decide)) rfl C_law_safe.mgx C_law_safe.kp C_law_safe.bd .nil (passes_call tk (fun _ _ _ _ h => h)) (pa_cons (pv 5) (pa_cons (pv 3) (pa_cons (pv 6) (pa_cons (pv 8) pa_nil)))))))))) (pw_or1 (PW.pt (pw_and (pt_val (pv 9)) (pw_and1 (pt_not (pt_val (pe_call (E := E) C_law_lost.ok (hr.mono (by decide)) rfl C_law_lost.mgx C_law_lost.kp C_law_lost.bd .nil (passes_call tk (fun _ _ _ _ h => h)) (pa_cons (pv 5) (pa_cons (pv 3) (pa_cons (pv 6) (pa_cons (pv 7) pa_nil))))))))))))) (pss_cons (ps_ret pe_bl)
     pss_nil) pss_nil)
     (pss_cons (ps_set (i := 14) sc_law.nd rfl (by first | exact Or.inl rfl | exact Or.inr rfl) (pe_call (E := E) C_law_parts.ok (hr.mono (by decide)) rfl C_law_parts.mgx C_law_parts.kp C_law_parts.bd .nil (passes_call tk (fun _ _ _ _ h => h)) (pa_cons (pe_call (E := E) C_law_far.ok (hr.mono (by decide)) rfl C_law_far.mgx C_law_far.kp C_law_far.bd .nil (passes_call tk (fun _ _ _ _ h => h)) (pa_cons (pv 0) (pa_cons pe_int pa_nil))) (pa_cons (pe_op op_rep (pe_lst (pa_cons pe_int (pa_cons pe_int (pa_cons pe_int (pa_cons pe_int (pa_cons pe_int (pa_cons pe_int pa_nil))))))) pe_int) pa_nil))))
     (pss_cons (ps_for (passes_of rfl) rfl (pi_range1 rfl T.n_range (pa_cons pe_int pa_nil)) (pg_name (i := 15) sc_law.nd rfl (by first | exact Or.inl rfl | exact Or.inr rfl)) (pss_cons (ps_set (i := 16) sc_law.nd rfl (by first | exact Or.inl rfl | exact Or.inr rfl) (pe_op op_mul pe_int (pv 15)))
     (pss_cons (ps_set (i := 17) sc_law.nd rfl (by first | exact Or.inl rfl | exact Or.inr rfl) (pe_call (E := E) C_law_changed.ok (hr.mono (by decide)) rfl C_law_changed.mgx C_law_changed.kp C_law_changed.bd .nil (passes_call tk (fun _ _ _ _ h => h)) (pa_cons (pv 8) (pa_cons (pe_ix (r := rIxL K) ix_list (pe_lst (pa_cons (pe_ix (r := rIxL K) ix_list (pv 14) (pv 16) (fun _ _ => rfl)) (pa_cons pe_int pa_nil))) (pe_callTy call_int1 (by rfl) T.n_int b_int (pa_cons (pe_cmpR op_eq (pv 15) pe_int (nomark _)) pa_nil)) (fun _ _ => rfl)) (pa_cons (pe_ix (r := rIxL K) ix_list (pv 14) (pe_op op_add (pv 16) pe_int) (fun _ _ => rfl)) (pa_cons (pe_ix (r := rIxL K) ix_list (pv 14) (pe_op op_add (pv 16) pe_int) (fun _ _ => rfl)) pa_nil))))))
     (pss_cons (ps_if (pt_cmpR op_eq (pe_ix (r := rIxL K) ix_list (pv 14) (pe_op op_add (pv 16) pe_int) (fun _ _ => rfl)) pe_int (nomark _)) (pss_cons (ps_setLc (i := 17) (own := [("item", 21)]) rfl sc_law.nd rfl rfl (sw_true rfl rfl rfl (by decide +kernel)) (pi_list (pv 17)) (blkOk_by (own := [("item", 21)]) (N := N_law) (sc := defScope s_law) (by decide +kernel)) (fun _ _ _ _ _ => (pg_name (i := 21) sc_law.nd rfl (by first | exact Or.inl rfl | exact Or.inr rfl))) (fun _ _ _ _ _ => pts_nil) (fun _ _ _ _ _ => (pe_ix (r := rIxL K) ix_list (pe_lst (pa_cons (pv 21) (pa_cons pe_int pa_nil))) (pe_callTy call_int1 (by rfl) T.n_int b_int (pa_cons (pe_cmpR op_isN (pv 21) pe_non (nomark _)) pa_nil)) (fun _ _ => rfl))))
     pss_nil) pss_nil)
     (pss_cons (ps_if (pt_not (pt_val (pe_call (E := E) C_law_right_moves.ok (hr.mono (by decide)) rfl C_law_right_moves.mgx C_law_right_moves.kp C_law_right_moves.bd .nil (passes_call tk (fun _ _ _ _ h => h)) (pa_cons (pv 5) (pa_cons (pv 3) (pa_cons (pv 6) (pa_cons (pv 17) (pa_cons (pv 9) pa_nil)))))))) (pss_cons (ps_ret pe_bl)
     pss_nil) pss_nil)
     (pss_cons (ps_set (i := 17) sc_law.nd rfl (by first | exact Or.inl rfl | exact Or.inr rfl) (pe_call (E := E) C_law_changed.ok (hr.mono (by decide)) rfl C_law_changed.mgx C_law_changed.kp C_law_changed.bd .nil (passes_call tk (fun _ _ _ _ h => h)) (pa_cons (pv 7) (pa_cons (pe_ix (r := rIxL K) ix_list (pe_lst (pa_cons (pe_ix (r := rIxL K) ix_list (pv 14) (pe_op op_add (pv 16) pe_int) (fun _ _ => rfl)) (pa_cons pe_int pa_nil))) (pe_callTy call_int1 (by rfl) T.n_int b_int (pa_cons (pe_cmpR op_eq (pv 15) pe_int (nomark _)) pa_nil)) (fun _ _ => rfl)) (pa_cons (pe_ix (r := rIxL K) ix_list (pv 14) (pe_op op_add (pv 16) pe_int) (fun _ _ => rfl)) (pa_cons (pe_op op_add pe_int (pe_ix (r := rIxL K) ix_list (pv 14) (pe_op op_add (pv 16) pe_int) (fun _ _ => rfl))) pa_nil))))))
     (pss_cons (ps_if (pt_cmpR op_eq (pe_ix (r := rIxL K) ix_list (pv 14) (pe_op op_add (pv 16) pe_int) (fun _ _ => rfl)) pe_int (nomark _)) (pss_cons (ps_setLc (i := 17) (own := [("item", 21)]) rfl sc_law.nd rfl rfl (sw_true rfl rfl rfl (by decide +kernel)) (pi_list (pv 17)) (blkOk_by (own := [("item", 21)]) (N := N_law) (sc := defScope s_law) (by decide +kernel)) (fun _ _ _ _ _ => (pg_name (i := 21) sc_law.nd rfl (by first | exact Or.inl rfl | exact Or.inr rfl))) (fun _ _ _ _ _ => pts_nil) (fun _ _ _ _ _ => (pe_op op_add (pe_ix (r := rIxL K) ix_list (pe_lst (pa_cons (pv 21) (pa_cons pe_int pa_nil))) (pe_callTy call_int1 (by rfl) T.n_int b_int (pa_cons (pe_cmpR op_isN (pv 21) pe_non (nomark _)) pa_nil)) (fun _ _ => rfl)) pe_int)))
     pss_nil) pss_nil)
     (pss_cons (ps_if (pt_not (pt_val (pe_call (E := E) C_law_right_rounds.ok (hr.mono (by decide)) rfl C_law_right_rounds.mgx C_law_right_rounds.kp C_law_right_rounds.bd .nil (passes_call tk (fun _ _ _ _ h => h)) (pa_cons (pv 5) (pa_cons (pv 3) (pa_cons (pv 6) (pa_cons (pv 17) (pa_cons (pv 9) pa_nil)))))))) (pss_cons (ps_ret pe_bl)
     pss_nil) pss_nil)
     pss_nil))))))))
     (pss_cons (ps_set (i := 18) sc_law.nd rfl (by first | exact Or.inl rfl | exact Or.inr rfl) (pe_ix (r := rIxL K) ix_list (pe_lst (pa_cons (pe_op op_sub (pe_un un_neg pe_int) (pe_ix (r := rIxL K) ix_list (pv 1) pe_int (fun _ _ => rfl))) (pa_cons (pe_op op_add (pe_op op_add (pv 2) pe_int) (pe_ix (r := rIxL K) ix_list (pv 1) pe_int (fun _ _ => rfl))) pa_nil))) (pe_op op_mod (pe_callTy call_int1 (by rfl) T.n_int b_int (pa_cons (pe_ix (r := rIxL K) ix_list (pv 1) pe_int (fun _ _ => rfl)) pa_nil)) pe_int) (fun _ _ => rfl)))
     (pss_cons (ps_for (passes_of rfl) rfl (pi_range1 rfl T.n_range (pa_cons pe_int pa_nil)) (pg_name (i := 19) sc_law.nd rfl (by first | exact Or.inl rfl | exact Or.inr rfl)) (pss_cons (ps_if (pt_cmpR op_ne (pe_call (E := E) C_law_error.ok (hr.mono (by decide)) rfl C_law_error.mgx C_law_error.kp C_law_error.bd .nil (passes_call tk (fun _ _ _ _ h => h)) (pa_cons (pv 19) (pa_cons (pv 5) (pa_cons (pv 18) (pa_cons (pe_callTy (r := rLi K) call_list_of (by rfl) T.n_list b_list (pa_cons (pv 6) pa_nil)) (pa_cons (pe_lc (own := [("row", 22)]) rfl sc_law.nd (pi_tup (pe_ix (r := rIxT K) ix_tup (pv 5) pe_int (fun _ _ => rfl))) (blkOk_by (own := [("row", 22)]) (N := N_law) (sc := defScope s_law) (by decide +kernel)) (fun _ _ _ _ _ => (pg_name (i := 22) sc_law.nd rfl (by first | exact Or.inl rfl | exact Or.inr rfl))) (fun _ _ _ _ _ => pts_nil) (fun _ _ _ _ _ => pe_int)) pa_nil)))))) pe_int (nomark _)) (pss_cons (ps_ret pe_bl)
     pss_nil) pss_nil)
     pss_nil))
     (pss_cons (ps_ret pe_bl)
     pss_nil)))))))))))))))))))))))), ?_⟩
    have hs : Hs ⟨H, G, E, cl⟩ G [] H := Hs.start hg
    have hm := Wp.ofSp (G0 := G) hm
    dsimp only at hm
    unfold m_law at hm
    refine (show (_ : TS) _ ([some v_p_script, none, none, none, none, none, none, none, none, none, none, none, none, none, none, none, none, none, none, none, none, none, none] : L2.St) _ from ?_)
    refine w_asg (K := K) (tg_name (i := 1) (R := (rK zI))) (e_call (fm := ⟨H, G, E, cl⟩) (a_cons (e_call (fm := ⟨H, G, E, cl⟩) (a_cons (e_var (K := K) (i := 0) (R := (rL zI)) (x := p_script) rfl h_p_script) (a_one e_int))) (a_one (EvN.evK (e_lst (l_cons e_int (l_cons e_int (l_cons e_int (l_cons e_int (l_cons e_int (l_cons e_int (l_cons e_int (l_cons e_int (l_cons e_int (l_cons e_int (l_cons e_int (l_cons e_int (l_cons e_int l_nil))))))))))))) (by decide)))))) hs hm (fun p_head vv1 G1 H1 e1 hs hv1 hm => ?_)
    obtain ⟨v_p_head, rfl, h_p_head⟩ := hv1
    have h_p_script := ((rL zI)).mono e1 h_p_script
    refine (show (_ : TS) _ ([some v_p_script, some v_p_head, none, none, none, none, none, none, none, none, none, none, none, none, none, none, none, none, none, none, none, none, none] : L2.St) _ from ?_)
    refine w_asg (K := K) (tg_name (i := 2) (R := zI)) (e_ixL (e_KL (EvN.evK (e_lst (l_cons e_int (l_cons e_int (l_cons e_int (l_cons e_int (l_cons e_int l_nil))))) (by decide)))) (e_ixL (e_KL (e_var (K := K) (i := 1) (R := (rK zI)) (x := p_head) rfl h_p_head)) e_int)) hs hm (fun p_inputs vv2 G2 H2 e2 hs hv2 hm => ?_)
    obtain ⟨v_p_inputs, rfl, h_p_inputs⟩ := hv2
    cases (show v_p_inputs = V.int p_inputs from h_p_inputs)
    have h_p_script := ((rL zI)).mono e2 h_p_script
    have h_p_head := ((rK zI)).mono e2 h_p_head
    refine (show (_ : TS) _ ([some v_p_script, some v_p_head, some (.int p_inputs), none, none, none, none, none, none, none, none, none, none, none, none, none, none, none, none, none, none, none, none] : L2.St) _ from ?_)
    refine w_asg (K := K) (tg_name (i := 3) (R := zI)) (e_mod (e_intI (e_ixL (e_KL (e_var (K := K) (i := 1) (R := (rK zI)) (x := p_head) rfl h_p_head)) e_int)) (e_add (e_var (K := K) (i := 2) (R := zI) (x := p_inputs) rfl rfl) e_int)) hs hm (fun p_drivers vv3 G3 H3 e3 hs hv3 hm => ?_)
    obtain ⟨v_p_drivers, rfl, h_p_drivers⟩ := hv3
    cases (show v_p_drivers = V.int p_drivers from h_p_drivers)
    have h_p_script := ((rL zI)).mono e3 h_p_script
    have h_p_head := ((rK zI)).mono e3 h_p_head
    refine (show (_ : TS) _ ([some v_p_script, some v_p_head, some (.int p_inputs), some (.int p_drivers), none, none, none, none, none, none, none, none, none, none, none, none, none, none, none, none, none, none, none] : L2.St) _ from ?_)
    refine w_asg (K := K) (tg_name (i := 4) (R := zI)) (e_add e_int (e_mod (e_intI (e_ixL (e_KL (e_var (K := K) (i := 1) (R := (rK zI)) (x := p_head) rfl h_p_head)) e_int)) (e_ixL (e_KL (EvN.evK (e_lst (l_cons e_int (l_cons e_int l_nil)) (by decide)))) (e_intB (e_eq srI (e_ixL (e_KL (e_var (K := K) (i := 1) (R := (rK zI)) (x := p_head) rfl h_p_head)) e_int) e_int))))) hs hm (fun p_states vv4 G4 H4 e4 hs hv4 hm => ?_)
    obtain ⟨v_p_states, rfl, h_p_states⟩ := hv4
    cases (show v_p_states = V.int p_states from h_p_states)
    have h_p_script := ((rL zI)).mono e4 h_p_script
    have h_p_head := ((rK zI)).mono e4 h_p_head
    refine (show (_ : TS) _ ([some v_p_script, some v_p_head, some (.int p_inputs), some (.int p_drivers), some (.int p_states), none, none, none, none, none, none, none, none, none, none, none, none, none, none, none, none, none, none] : L2.St) _ from ?_)
    refine w_asg (K := K) (tg_name (i := 5) (R := (rP (rsC zI (rsC zI (rs1 (rT (rT (rP (rsC zI (rs1 zI))))))))))) (e_call (fm := ⟨H, G, E, cl⟩) (a_cons (e_var (K := K) (i := 0) (R := (rL zI)) (x := p_script) rfl h_p_script) (a_cons e_int (a_cons (e_var (K := K) (i := 2) (R := zI) (x := p_inputs) rfl rfl) (a_cons (e_add e_int (e_ixL (e_KL (e_var (K := K) (i := 1) (R := (rK zI)) (x := p_head) rfl h_p_head)) e_int)) (a_one (e_var (K := K) (i := 4) (R := zI) (x := p_states) rfl rfl))))))) hs hm (fun p_table vv5 G5 H5 e5 hs hv5 hm => ?_)
    obtain ⟨v_p_table, rfl, h_p_table⟩ := hv5
    have h_p_script := ((rL zI)).mono e5 h_p_script
    have h_p_head := ((rK zI)).mono e5 h_p_head
    refine (show (_ : TS) _ ([some v_p_script, some v_p_head, some (.int p_inputs), some (.int p_drivers), some (.int p_states), some v_p_table, none, none, none, none, none, none, none, none, none, none, none, none, none, none, none, none, none] : L2.St) _ from ?_)
    refine w_ifJ (k := fun s_ => (m_law_j7 p_script p_head p_inputs p_drivers s_)) (fun (p_table : (Int × Int × (List (List (Int × Int))))) (σ : L2.St) (G : Hp) (O : Own) => ∃ (v_p_table : V), σ = [some v_p_script, some v_p_head, some (.int p_inputs), some (.int p_drivers), some (.int p_states), some v_p_table, none, none, none, none, none, none, none, none, none, none, none, none, none, none, none, none, none] ∧ O = [] ∧ ((rP (rsC zI (rsC zI (rs1 (rT (rT (rP (rsC zI (rs1 zI)))))))))).r K G v_p_table p_table) (t_test (K := K) (e_eq srI (e_ixL (e_KL (e_var (K := K) (i := 1) (R := (rK zI)) (x := p_head) rfl h_p_head)) e_int) e_int)) hs hm (fun p_table σ_ G1_6 G6 O_ H6 e6 w_ e16 hs hm => ?_) (fun G6 H6 J6 e6 hs hm => ?_) (fun G6 H6 J6 e6 hs hm => ?_)
    · obtain ⟨v_p_table, rfl, rfl, h_p_table⟩ := w_
      have h_p_script := ((rL zI)).mono e6 h_p_script
      have h_p_head := ((rK zI)).mono e6 h_p_head
      have h_p_table := ((rP (rsC zI (rsC zI (rs1 (rT (rT (rP (rsC zI (rs1 zI)))))))))).mono e16 h_p_table
      refine (show (_ : TS) _ ([some v_p_script, some v_p_head, some (.int p_inputs), some (.int p_drivers), some (.int p_states), some v_p_table, none, none, none, none, none, none, none, none, none, none, none, none, none, none, none, none, none] : L2.St) _ from ?_)
      unfold m_law_j7 at hm
      try dsimp only at hm
      refine w_asg (K := K) (tg_name (i := 6) (R := (rK zI))) (EvN.evK (n_slice (e_KL (EvN.evK (n_lc (S := zI) (i_list (e_KL (EvN.evK (n_slice (e_KL (e_var (K := K) (i := 1) (R := (rK zI)) (x := p_head) rfl h_p_head)) (o_some (K := K) e_int) (o_some (K := K) e_int))))) (fun _ h => nomatch h) (tg_name (i := 20) (R := zI)) (by decide) (fun x8 vs8 G8 e8 hv8 => by
       obtain ⟨v8_p_number, rfl, h8_p_number⟩ := hv8
       exact ⟨t_yes, (e_mod (e_intI (e_var (K := K) (i := 20) (R := zI) (x := x8) rfl h8_p_number)) (e_shl e_int (e_proj (k := 1) (pjS pj0) (e_var (K := K) (i := 5) (R := (rP (rsC zI (rsC zI (rs1 (rT (rT (rP (rsC zI (rs1 zI)))))))))) (x := p_table) rfl (((rP (rsC zI (rsC zI (rs1 (rT (rT (rP (rsC zI (rs1 zI)))))))))).mono e8 h_p_table)))))⟩)))) o_none (o_some (K := K) (e_ixL (e_KL (e_var (K := K) (i := 1) (R := (rK zI)) (x := p_head) rfl h_p_head)) e_int)))) hs hm (fun p_bad vv9 G9 H9 e9 hs hv9 hm => ?_)
      obtain ⟨v_p_bad, rfl, h_p_bad⟩ := hv9
      have h_p_script := ((rL zI)).mono e9 h_p_script
      have h_p_head := ((rK zI)).mono e9 h_p_head
      have h_p_table := ((rP (rsC zI (rsC zI (rs1 (rT (rT (rP (rsC zI (rs1 zI)))))))))).mono e9 h_p_table
      refine (show (_ : TS) _ ([some v_p_script, some v_p_head, some (.int p_inputs), some (.int p_drivers), some (.int p_states), some v_p_table, some v_p_bad, none, none, none, none, none, none, none, none, none, none, none, none, none, none, none, none] : L2.St) _ from ?_)
      refine w_ifJ (k := fun s_ => (m_law_j11 p_script p_head p_inputs p_drivers p_table s_)) (fun (p_bad : (List Int)) (σ : L2.St) (G : Hp) (O : Own) => ∃ (v_p_bad : V), σ = [some v_p_script, some v_p_head, some (.int p_inputs), some (.int p_drivers), some (.int p_states), some v_p_table, some v_p_bad, none, none, none, none, none, none, none, none, none, none, none, none, none, none, none, none] ∧ O = [] ∧ ((rK zI)).r K G v_p_bad p_bad) (t_test (K := K) (e_eq srI (e_ixL (e_KL (e_var (K := K) (i := 1) (R := (rK zI)) (x := p_head) rfl h_p_head)) e_int) e_int)) hs hm (fun p_bad σ_ G1_10 G10 O_ H10 e10 w_ e110 hs hm => ?_) (fun G10 H10 J10 e10 hs hm => ?_) (fun G10 H10 J10 e10 hs hm => ?_)
      · obtain ⟨v_p_bad, rfl, rfl, h_p_bad⟩ := w_
        have h_p_script := ((rL zI)).mono e10 h_p_script
        have h_p_head := ((rK zI)).mono e10 h_p_head
        have h_p_table := ((rP (rsC zI (rsC zI (rs1 (rT (rT (rP (rsC zI (rs1 zI)))))))))).mono e10 h_p_table
        have h_p_bad := ((rK zI)).mono e110 h_p_bad
        refine (show (_ : TS) _ ([some v_p_script, some v_p_head, some (.int p_inputs), some (.int p_drivers), some (.int p_states), some v_p_table, some v_p_bad, none, none, none, none, none, none, none, none, none, none, none, none, none, none, none, none] : L2.St) _ from ?_)
        unfold m_law_j11 at hm
        try dsimp only at hm
        refine w_asg (K := K) (tg_name (i := 7) (R := (rK (rO zI)))) (e_call (fm := ⟨H, G, E, cl⟩) (a_cons (e_var (K := K) (i := 5) (R := (rP (rsC zI (rsC zI (rs1 (rT (rT (rP (rsC zI (rs1 zI)))))))))) (x := p_table) rfl h_p_table) (a_cons (e_var (K := K) (i := 3) (R := zI) (x := p_drivers) rfl rfl) (a_one (e_var (K := K) (i := 6) (R := (rK zI)) (x := p_bad) rfl h_p_bad))))) hs hm (fun p_rounds vv12 G12 H12 e12 hs hv12 hm => ?_)
        obtain ⟨v_p_rounds, rfl, h_p_rounds⟩ := hv12
        have h_p_script := ((rL zI)).mono e12 h_p_script
        have h_p_head := ((rK zI)).mono e12 h_p_head
        have h_p_table := ((rP (rsC zI (rsC zI (rs1 (rT (rT (rP (rsC zI (rs1 zI)))))))))).mono e12 h_p_table
        have h_p_bad := ((rK zI)).mono e12 h_p_bad
        refine (show (_ : TS) _ ([some v_p_script, some v_p_head, some (.int p_inputs), some (.int p_drivers), some (.int p_states), some v_p_table, some v_p_bad, some v_p_rounds, none, none, none, none, none, none, none, none, none, none, none, none, none, none, none] : L2.St) _ from ?_)
        refine w_asg (K := K) (tg_name (i := 8) (R := (rK (rO zI)))) (e_call (fm := ⟨H, G, E, cl⟩) (a_cons (e_var (K := K) (i := 5) (R := (rP (rsC zI (rsC zI (rs1 (rT (rT (rP (rsC zI (rs1 zI)))))))))) (x := p_table) rfl h_p_table) (a_cons (e_var (K := K) (i := 3) (R := zI) (x := p_drivers) rfl rfl) (a_cons (e_var (K := K) (i := 6) (R := (rK zI)) (x := p_bad) rfl h_p_bad) (a_one (e_var (K := K) (i := 7) (R := (rK (rO zI))) (x := p_rounds) rfl h_p_rounds)))))) hs hm (fun p_moves vv13 G13 H13 e13 hs hv13 hm => ?_)
        obtain ⟨v_p_moves, rfl, h_p_moves⟩ := hv13
        have h_p_script := ((rL zI)).mono e13 h_p_script
        have h_p_head := ((rK zI)).mono e13 h_p_head
        have h_p_table := ((rP (rsC zI (rsC zI (rs1 (rT (rT (rP (rsC zI (rs1 zI)))))))))).mono e13 h_p_table
        have h_p_bad := ((rK zI)).mono e13 h_p_bad
        have h_p_rounds := ((rK (rO zI))).mono e13 h_p_rounds
        refine (show (_ : TS) _ ([some v_p_script, some v_p_head, some (.int p_inputs), some (.int p_drivers), some (.int p_states), some v_p_table, some v_p_bad, some v_p_rounds, some v_p_moves, none, none, none, none, none, none, none, none, none, none, none, none, none, none] : L2.St) _ from ?_)
        refine w_asg (K := K) (tg_name (i := 9) (R := rB)) (e_notN (e_ixL (e_KL (e_var (K := K) (i := 7) (R := (rK (rO zI))) (x := p_rounds) rfl h_p_rounds)) e_int)) hs hm (fun p_lost vv14 G14 H14 e14 hs hv14 hm => ?_)
        obtain ⟨v_p_lost, rfl, h_p_lost⟩ := hv14
        cases (show v_p_lost = V.bl p_lost from h_p_lost)
        have h_p_script := ((rL zI)).mono e14 h_p_script
        have h_p_head := ((rK zI)).mono e14 h_p_head
        have h_p_table := ((rP (rsC zI (rsC zI (rs1 (rT (rT (rP (rsC zI (rs1 zI)))))))))).mono e14 h_p_table
        have h_p_bad := ((rK zI)).mono e14 h_p_bad
        have h_p_rounds := ((rK (rO zI))).mono e14 h_p_rounds
        have h_p_moves := ((rK (rO zI))).mono e14 h_p_moves
        refine (show (_ : TS) _ ([some v_p_script, some v_p_head, some (.int p_inputs), some (.int p_drivers), some (.int p_states), some v_p_table, some v_p_bad, some v_p_rounds, some v_p_moves, some (.bl p_lost), none, none, none, none, none, none, none, none, none, none, none, none, none] : L2.St) _ from ?_)
        refine w_asg (K := K) (tg_name (i := 10) (R := rS)) (e_ixL (e_KL (EvN.evK (e_lst (l_cons e_str (l_cons e_str l_nil)) (by decide)))) (e_intB (e_var (K := K) (i := 9) (R := rB) (x := p_lost) rfl rfl))) hs hm (fun p_kind vv15 G15 H15 e15 hs hv15 hm => ?_)
        obtain ⟨v_p_kind, rfl, h_p_kind⟩ := hv15
        cases (show v_p_kind = V.str p_kind from h_p_kind)
        have h_p_script := ((rL zI)).mono e15 h_p_script
        have h_p_head := ((rK zI)).mono e15 h_p_head
        have h_p_table := ((rP (rsC zI (rsC zI (rs1 (rT (rT (rP (rsC zI (rs1 zI)))))))))).mono e15 h_p_table
        have h_p_bad := ((rK zI)).mono e15 h_p_bad
        have h_p_rounds := ((rK (rO zI))).mono e15 h_p_rounds
        have h_p_moves := ((rK (rO zI))).mono e15 h_p_moves
        refine (show (_ : TS) _ ([some v_p_script, some v_p_head, some (.int p_inputs), some (.int p_drivers), some (.int p_states), some v_p_table, some v_p_bad, some v_p_rounds, some v_p_moves, some (.bl p_lost), some (.str p_kind), none, none, none, none, none, none, none, none, none, none, none, none] : L2.St) _ from ?_)
        refine w_asg (K := K) (tg_name (i := 11) (R := (rK (rO zI)))) (e_ixL (e_KL (EvN.evK (e_lst (l_cons (e_var (K := K) (i := 8) (R := (rK (rO zI))) (x := p_moves) rfl h_p_moves) (l_cons (e_var (K := K) (i := 7) (R := (rK (rO zI))) (x := p_rounds) rfl h_p_rounds) l_nil)) (by decide)))) (e_intB (e_var (K := K) (i := 9) (R := rB) (x := p_lost) rfl rfl))) hs hm (fun p_due vv16 G16 H16 e16 hs hv16 hm => ?_)
        obtain ⟨v_p_due, rfl, h_p_due⟩ := hv16
        have h_p_script := ((rL zI)).mono e16 h_p_script
        have h_p_head := ((rK zI)).mono e16 h_p_head
        have h_p_table := ((rP (rsC zI (rsC zI (rs1 (rT (rT (rP (rsC zI (rs1 zI)))))))))).mono e16 h_p_table
        have h_p_bad := ((rK zI)).mono e16 h_p_bad
        have h_p_rounds := ((rK (rO zI))).mono e16 h_p_rounds
        have h_p_moves := ((rK (rO zI))).mono e16 h_p_moves
        refine (show (_ : TS) _ ([some v_p_script, some v_p_head, some (.int p_inputs), some (.int p_drivers), some (.int p_states), some v_p_table, some v_p_bad, some v_p_rounds, some v_p_moves, some (.bl p_lost), some (.str p_kind), some v_p_due, none, none, none, none, none, none, none, none, none, none, none] : L2.St) _ from ?_)
        refine w_asg (K := K) (tg_name (i := 12) (R := (rK zI))) (EvN.evK (n_list sq_K (e_var (K := K) (i := 6) (R := (rK zI)) (x := p_bad) rfl h_p_bad))) hs hm (fun p_passed vv17 G17 H17 e17 hs hv17 hm => ?_)
        obtain ⟨v_p_passed, rfl, h_p_passed⟩ := hv17
        have h_p_script := ((rL zI)).mono e17 h_p_script
        have h_p_head := ((rK zI)).mono e17 h_p_head
        have h_p_table := ((rP (rsC zI (rsC zI (rs1 (rT (rT (rP (rsC zI (rs1 zI)))))))))).mono e17 h_p_table
        have h_p_bad := ((rK zI)).mono e17 h_p_bad
        have h_p_rounds := ((rK (rO zI))).mono e17 h_p_rounds
        have h_p_moves := ((rK (rO zI))).mono e17 h_p_moves
        have h_p_due := ((rK (rO zI))).mono e17 h_p_due
        refine (show (_ : TS) _ ([some v_p_script, some v_p_head, some (.int p_inputs), some (.int p_drivers), some (.int p_states), some v_p_table, some v_p_bad, some v_p_rounds, some v_p_moves, some (.bl p_lost), some (.str p_kind), some v_p_due, some v_p_passed, none, none, none, none, none, none, none, none, none, none] : L2.St) _ from ?_)
        refine w_told (i := 13) (Rw := rS) (Rl := (rO zI)) sc_S (sc_O sc_I) (a_cons (e_var (K := K) (i := 5) (R := (rP (rsC zI (rsC zI (rs1 (rT (rT (rP (rsC zI (rs1 zI)))))))))) (x := p_table) rfl h_p_table) (a_cons (e_var (K := K) (i := 3) (R := zI) (x := p_drivers) rfl rfl) (a_one (e_var (K := K) (i := 12) (R := (rK zI)) (x := p_passed) rfl h_p_passed)))) hs hm (fun p_told w_p_told l_p_told vs_p_told q_p_told G18 H18 e18 hs ht_p_told hw_p_told h_p_told hm => ?_)
        have h_p_script := ((rL zI)).mono e18 h_p_script
        have h_p_head := ((rK zI)).mono e18 h_p_head
        have h_p_table := ((rP (rsC zI (rsC zI (rs1 (rT (rT (rP (rsC zI (rs1 zI)))))))))).mono e18 h_p_table
        have h_p_bad := ((rK zI)).mono e18 h_p_bad
        have h_p_rounds := ((rK (rO zI))).mono e18 h_p_rounds
        have h_p_moves := ((rK (rO zI))).mono e18 h_p_moves
        have h_p_due := ((rK (rO zI))).mono e18 h_p_due
        have h_p_passed := ((rK zI)).mono e18 h_p_passed
        refine (show (_ : TS) _ ([some v_p_script, some v_p_head, some (.int p_inputs), some (.int p_drivers), some (.int p_states), some v_p_table, some v_p_bad, some v_p_rounds, some v_p_moves, some (.bl p_lost), some (.str p_kind), some v_p_due, some v_p_passed, some (.ref q_p_told), none, none, none, none, none, none, none, none, none] : L2.St) _ from ?_)
        refine w_if (t_lend (l := l_p_told) (o := HO.lst vs_p_told) (List.mem_of_getElem? (i := 0) rfl) (t_or (t_test (K := K) (e_neD (qK qI) (by decide) (e_var (K := K) (i := 12) (R := (rK zI)) (x := p_passed) rfl (((rK zI)).mono (same_new (o := HO.lst vs_p_told) (hs.at 0 rfl).2.1) h_p_passed)) (e_var (K := K) (i := 6) (R := (rK zI)) (x := p_bad) rfl (((rK zI)).mono (same_new (o := HO.lst vs_p_told) (hs.at 0 rfl).2.1) h_p_bad)))) (t_not (t_val (K := K) (e_call (fm := ⟨H, G, E, cl⟩) (a_cons (e_var (K := K) (i := 13) (R := (rP2 rS (rK (rO zI)))) (x := p_told) rfl (told_rep (same_t (same_new (o := HO.lst vs_p_told) (hs.at 0 rfl).2.1) ht_p_told) ((rS).mono (same_new (o := HO.lst vs_p_told) (hs.at 0 rfl).2.1) hw_p_told) upd_same (RLs.mono (same_new (o := HO.lst vs_p_told) (hs.at 0 rfl).2.1) h_p_told))) (a_cons (e_var (K := K) (i := 10) (R := rS) (x := p_kind) rfl rfl) (a_one (e_var (K := K) (i := 11) (R := (rK (rO zI))) (x := p_due) rfl (((rK (rO zI))).mono (same_new (o := HO.lst vs_p_told) (hs.at 0 rfl).2.1) h_p_due)))))))))) hs hm (fun G19 H19 e19 hs hm => ?_) (fun G19 H19 e19 hs hm => ?_)
        · have h_p_script := ((rL zI)).mono e19 h_p_script
          have h_p_head := ((rK zI)).mono e19 h_p_head
          have h_p_table := ((rP (rsC zI (rsC zI (rs1 (rT (rT (rP (rsC zI (rs1 zI)))))))))).mono e19 h_p_table
          have h_p_bad := ((rK zI)).mono e19 h_p_bad
          have h_p_rounds := ((rK (rO zI))).mono e19 h_p_rounds
          have h_p_moves := ((rK (rO zI))).mono e19 h_p_moves
          have h_p_due := ((rK (rO zI))).mono e19 h_p_due
          have h_p_passed := ((rK zI)).mono e19 h_p_passed
          have h_p_told := RLs.mono e19 h_p_told
          have ht_p_told := same_t e19 ht_p_told
          have hw_p_told := (rS).mono e19 hw_p_told
          exact w_ret0 (K := K) e_bl hs hm fun r v G2 H2 hs2 hr2 hq => hq v G2 H2 hs2.fin hr2
        · have h_p_script := ((rL zI)).mono e19 h_p_script
          have h_p_head := ((rK zI)).mono e19 h_p_head
          have h_p_table := ((rP (rsC zI (rsC zI (rs1 (rT (rT (rP (rsC zI (rs1 zI)))))))))).mono e19 h_p_table
          have h_p_bad := ((rK zI)).mono e19 h_p_bad
          have h_p_rounds := ((rK (rO zI))).mono e19 h_p_rounds
          have h_p_moves := ((rK (rO zI))).mono e19 h_p_moves
          have h_p_due := ((rK (rO zI))).mono e19 h_p_due
          have h_p_passed := ((rK zI)).mono e19 h_p_passed
          have h_p_told := RLs.mono e19 h_p_told
          have ht_p_told := same_t e19 ht_p_told
          have hw_p_told := (rS).mono e19 hw_p_told
          refine nx_of ?_
          refine (show (_ : TS) _ ([some v_p_script, some v_p_head, some (.int p_inputs), some (.int p_drivers), some (.int p_states), some v_p_table, some v_p_bad, some v_p_rounds, some v_p_moves, some (.bl p_lost), some (.str p_kind), some v_p_due, some v_p_passed, some (.ref q_p_told), none, none, none, none, none, none, none, none, none] : L2.St) _ from ?_)
          refine w_appAt (i := 13) 0 (xs := p_told.2) rfl ht_p_told rfl h_p_told (e_some nn_I e_int) hs hm (fun y20 w20 G20 H20 e20 hs h20 hm => ?_)
          have h_p_script := ((rL zI)).mono e20 h_p_script
          have h_p_head := ((rK zI)).mono e20 h_p_head
          have h_p_table := ((rP (rsC zI (rsC zI (rs1 (rT (rT (rP (rsC zI (rs1 zI)))))))))).mono e20 h_p_table
          have h_p_bad := ((rK zI)).mono e20 h_p_bad
          have h_p_rounds := ((rK (rO zI))).mono e20 h_p_rounds
          have h_p_moves := ((rK (rO zI))).mono e20 h_p_moves
          have h_p_due := ((rK (rO zI))).mono e20 h_p_due
          have h_p_passed := ((rK zI)).mono e20 h_p_passed
          have hs := hs.drop 0
          refine w_if (t_not (t_val (K := K) (e_call (fm := ⟨H, G, E, cl⟩) (a_cons (e_FP2 (e_callF (Rf := fun H => (rP (rsC rS (rs1 (rF H (rO zI)))))) (fm := ⟨H, G, E, cl⟩) (an_P2 an_R an_F) (a_cons (e_var (K := K) (i := 5) (R := (rP (rsC zI (rsC zI (rs1 (rT (rT (rP (rsC zI (rs1 zI)))))))))) (x := p_table) rfl h_p_table) (a_cons (e_var (K := K) (i := 3) (R := zI) (x := p_drivers) rfl rfl) (a_one (EvN.evK (n_list sq_K (e_var (K := K) (i := 6) (R := (rK zI)) (x := p_bad) rfl h_p_bad)))))))) (a_cons (e_var (K := K) (i := 10) (R := rS) (x := p_kind) rfl rfl) (a_one (e_var (K := K) (i := 11) (R := (rK (rO zI))) (x := p_due) rfl h_p_due))))))) hs hm (fun G21 H21 e21 hs hm => ?_) (fun G21 H21 e21 hs hm => ?_)
          · have h_p_script := ((rL zI)).mono e21 h_p_script
            have h_p_head := ((rK zI)).mono e21 h_p_head
            have h_p_table := ((rP (rsC zI (rsC zI (rs1 (rT (rT (rP (rsC zI (rs1 zI)))))))))).mono e21 h_p_table
            have h_p_bad := ((rK zI)).mono e21 h_p_bad
            have h_p_rounds := ((rK (rO zI))).mono e21 h_p_rounds
            have h_p_moves := ((rK (rO zI))).mono e21 h_p_moves
            have h_p_due := ((rK (rO zI))).mono e21 h_p_due
            have h_p_passed := ((rK zI)).mono e21 h_p_passed
            exact w_ret0 (K := K) e_bl hs hm fun r v G2 H2 hs2 hr2 hq => hq v G2 H2 hs2.fin hr2
          · have h_p_script := ((rL zI)).mono e21 h_p_script
            have h_p_head := ((rK zI)).mono e21 h_p_head
            have h_p_table := ((rP (rsC zI (rsC zI (rs1 (rT (rT (rP (rsC zI (rs1 zI)))))))))).mono e21 h_p_table
            have h_p_bad := ((rK zI)).mono e21 h_p_bad
            have h_p_rounds := ((rK (rO zI))).mono e21 h_p_rounds
            have h_p_moves := ((rK (rO zI))).mono e21 h_p_moves
            have h_p_due := ((rK (rO zI))).mono e21 h_p_due
            have h_p_passed := ((rK zI)).mono e21 h_p_passed
            refine nx_of ?_
            refine (show (_ : TS) _ ([some v_p_script, some v_p_head, some (.int p_inputs), some (.int p_drivers), some (.int p_states), some v_p_table, some v_p_bad, some v_p_rounds, some v_p_moves, some (.bl p_lost), some (.str p_kind), some v_p_due, some v_p_passed, some (.ref q_p_told), none, none, none, none, none, none, none, none, none] : L2.St) _ from ?_)
            refine w_if (t_or (t_and (t_not (t_val (K := K) (e_var (K := K) (i := 9) (R := rB) (x := p_lost) rfl rfl))) (t_not (t_val (K := K) (e_call (fm := ⟨H, G, E, cl⟩) (a_cons (e_var (K := K) (i := 5) (R := (rP (rsC zI (rsC zI (rs1 (rT (rT (rP (rsC zI (rs1 zI)))))))))) (x := p_table) rfl h_p_table) (a_cons (e_var (K := K) (i := 3) (R := zI) (x := p_drivers) rfl rfl) (a_cons (e_var (K := K) (i := 6) (R := (rK zI)) (x := p_bad) rfl h_p_bad) (a_one (e_var (K := K) (i := 8) (R := (rK (rO zI))) (x := p_moves) rfl h_p_moves))))))))) (t_and (t_val (K := K) (e_var (K := K) (i := 9) (R := rB) (x := p_lost) rfl rfl)) (t_not (t_val (K := K) (e_call (fm := ⟨H, G, E, cl⟩) (a_cons (e_var (K := K) (i := 5) (R := (rP (rsC zI (rsC zI (rs1 (rT (rT (rP (rsC zI (rs1 zI)))))))))) (x := p_table) rfl h_p_table) (a_cons (e_var (K := K) (i := 3) (R := zI) (x := p_drivers) rfl rfl) (a_cons (e_var (K := K) (i := 6) (R := (rK zI)) (x := p_bad) rfl h_p_bad) (a_one (e_var (K := K) (i := 7) (R := (rK (rO zI))) (x := p_rounds) rfl h_p_rounds)))))))))) hs hm (fun G22 H22 e22 hs hm => ?_) (fun G22 H22 e22 hs hm => ?_)
            · have h_p_script := ((rL zI)).mono e22 h_p_script
              have h_p_head := ((rK zI)).mono e22 h_p_head
              have h_p_table := ((rP (rsC zI (rsC zI (rs1 (rT (rT (rP (rsC zI (rs1 zI)))))))))).mono e22 h_p_table
              have h_p_bad := ((rK zI)).mono e22 h_p_bad
              have h_p_rounds := ((rK (rO zI))).mono e22 h_p_rounds
              have h_p_moves := ((rK (rO zI))).mono e22 h_p_moves
              have h_p_due := ((rK (rO zI))).mono e22 h_p_due
              have h_p_passed := ((rK zI)).mono e22 h_p_passed
              exact w_ret0 (K := K) e_bl hs hm fun r v G2 H2 hs2 hr2 hq => hq v G2 H2 hs2.fin hr2
            · have h_p_script := ((rL zI)).mono e22 h_p_script
              have h_p_head := ((rK zI)).mono e22 h_p_head
              have h_p_table := ((rP (rsC zI (rsC zI (rs1 (rT (rT (rP (rsC zI (rs1 zI)))))))))).mono e22 h_p_table
              have h_p_bad := ((rK zI)).mono e22 h_p_bad
              have h_p_rounds := ((rK (rO zI))).mono e22 h_p_rounds
              have h_p_moves := ((rK (rO zI))).mono e22 h_p_moves
              have h_p_due := ((rK (rO zI))).mono e22 h_p_due
              have h_p_passed := ((rK zI)).mono e22 h_p_passed
              refine nx_of ?_
              refine (show (_ : TS) _ ([some v_p_script, some v_p_head, some (.int p_inputs), some (.int p_drivers), some (.int p_states), some v_p_table, some v_p_bad, some v_p_rounds, some v_p_moves, some (.bl p_lost), some (.str p_kind), some v_p_due, some v_p_passed, some (.ref q_p_told), none, none, none, none, none, none, none, none, none] : L2.St) _ from ?_)
              refine w_asg (K := K) (tg_name (i := 14) (R := (rK zI))) (e_call (fm := ⟨H, G, E, cl⟩) (a_cons (e_call (fm := ⟨H, G, E, cl⟩) (a_cons (e_var (K := K) (i := 0) (R := (rL zI)) (x := p_script) rfl h_p_script) (a_one e_int))) (a_one (EvN.evK (n_rep (EvN.evK (e_lst (l_cons e_int (l_cons e_int (l_cons e_int (l_cons e_int (l_cons e_int (l_cons e_int l_nil)))))) (by decide))) e_int))))) hs hm (fun p_parts vv23 G23 H23 e23 hs hv23 hm => ?_)
              obtain ⟨v_p_parts, rfl, h_p_parts⟩ := hv23
              have h_p_script := ((rL zI)).mono e23 h_p_script
              have h_p_head := ((rK zI)).mono e23 h_p_head
              have h_p_table := ((rP (rsC zI (rsC zI (rs1 (rT (rT (rP (rsC zI (rs1 zI)))))))))).mono e23 h_p_table
              have h_p_bad := ((rK zI)).mono e23 h_p_bad
              have h_p_rounds := ((rK (rO zI))).mono e23 h_p_rounds
              have h_p_moves := ((rK (rO zI))).mono e23 h_p_moves
              have h_p_due := ((rK (rO zI))).mono e23 h_p_due
              have h_p_passed := ((rK zI)).mono e23 h_p_passed
              refine (show (_ : TS) _ ([some v_p_script, some v_p_head, some (.int p_inputs), some (.int p_drivers), some (.int p_states), some v_p_table, some v_p_bad, some v_p_rounds, some v_p_moves, some (.bl p_lost), some (.str p_kind), some v_p_due, some v_p_passed, some (.ref q_p_told), some v_p_parts, none, none, none, none, none, none, none, none] : L2.St) _ from ?_)
              refine w_forB (K := K) (Rr := rB) (fun (_ : Unit) (σ : L2.St) (G : Hp) (O : Own) => ∃ (d_15 : Option V) (d_16 : Option V) (d_17 : Option V), σ = [some v_p_script, some v_p_head, some (.int p_inputs), some (.int p_drivers), some (.int p_states), some v_p_table, some v_p_bad, some v_p_rounds, some v_p_moves, some (.bl p_lost), some (.str p_kind), some v_p_due, some v_p_passed, some (.ref q_p_told), some v_p_parts, d_15, d_16, d_17, none, none, none, none, none] ∧ O = []) (i_rng1 e_int) (fun _ _ _ _ _ _ h => nomatch h) (tg_name (i := 15) (R := zI)) hs hm ⟨none, none, none, rfl, rfl⟩ (fun r v G2 O2 H2 hs2 hr2 hq => hq v G2 H2 hs2.fin hr2) (fun p_k s_ σ_ G1_24 G24 O_ H24 vv24 D24 Qb24 e24 w_ e124 hs hv24 E24 hm => ?_) (fun s_ σ_ G1_24 G24 O_ H24 e24 w_ e124 hs hm => ?_)
              · obtain ⟨d_15, d_16, d_17, rfl, rfl⟩ := w_
                have h_p_script := ((rL zI)).mono e24 h_p_script
                have h_p_head := ((rK zI)).mono e24 h_p_head
                have h_p_table := ((rP (rsC zI (rsC zI (rs1 (rT (rT (rP (rsC zI (rs1 zI)))))))))).mono e24 h_p_table
                have h_p_bad := ((rK zI)).mono e24 h_p_bad
                have h_p_rounds := ((rK (rO zI))).mono e24 h_p_rounds
                have h_p_moves := ((rK (rO zI))).mono e24 h_p_moves
                have h_p_due := ((rK (rO zI))).mono e24 h_p_due
                have h_p_passed := ((rK zI)).mono e24 h_p_passed
                have h_p_parts := ((rK zI)).mono e24 h_p_parts
                obtain ⟨v_p_k, rfl, h_p_k⟩ := hv24
                cases (show v_p_k = V.int p_k from h_p_k)
                have b24 := Same.refl G24
                refine (show (_ : TS) _ ([some v_p_script, some v_p_head, some (.int p_inputs), some (.int p_drivers), some (.int p_states), some v_p_table, some v_p_bad, some v_p_rounds, some v_p_moves, some (.bl p_lost), some (.str p_kind), some v_p_due, some v_p_passed, some (.ref q_p_told), some v_p_parts, some (.int p_k), d_16, d_17, none, none, none, none, none] : L2.St) _ from ?_)
                unfold m_law_b44 at hm
                try dsimp only at hm
                refine w_asg (K := K) (tg_name (i := 16) (R := zI)) (e_mul e_int (e_var (K := K) (i := 15) (R := zI) (x := p_k) rfl rfl)) hs hm (fun p_at vv25 G25 H25 e25 hs hv25 hm => ?_)
                obtain ⟨v_p_at, rfl, h_p_at⟩ := hv25
                cases (show v_p_at = V.int p_at from h_p_at)
                have h_p_script := ((rL zI)).mono e25 h_p_script
                have h_p_head := ((rK zI)).mono e25 h_p_head
                have h_p_table := ((rP (rsC zI (rsC zI (rs1 (rT (rT (rP (rsC zI (rs1 zI)))))))))).mono e25 h_p_table
                have h_p_bad := ((rK zI)).mono e25 h_p_bad
                have h_p_rounds := ((rK (rO zI))).mono e25 h_p_rounds
                have h_p_moves := ((rK (rO zI))).mono e25 h_p_moves
                have h_p_due := ((rK (rO zI))).mono e25 h_p_due
                have h_p_passed := ((rK zI)).mono e25 h_p_passed
                have h_p_parts := ((rK zI)).mono e25 h_p_parts
                have b24 := Same.trans b24 e25
                refine (show (_ : TS) _ ([some v_p_script, some v_p_head, some (.int p_inputs), some (.int p_drivers), some (.int p_states), some v_p_table, some v_p_bad, some v_p_rounds, some v_p_moves, some (.bl p_lost), some (.str p_kind), some v_p_due, some v_p_passed, some (.ref q_p_told), some v_p_parts, some (.int p_k), some (.int p_at), d_17, none, none, none, none, none] : L2.St) _ from ?_)
                refine w_asg (K := K) (tg_name (i := 17) (R := (rK (rO zI)))) (e_call (fm := ⟨H, G, E, cl⟩) (a_cons (e_var (K := K) (i := 8) (R := (rK (rO zI))) (x := p_moves) rfl h_p_moves) (a_cons (e_ixL (e_KL (EvN.evK (e_lst (l_cons (e_ixL (e_KL (e_var (K := K) (i := 14) (R := (rK zI)) (x := p_parts) rfl h_p_parts)) (e_var (K := K) (i := 16) (R := zI) (x := p_at) rfl rfl)) (l_cons e_int l_nil)) (by decide)))) (e_intB (e_eq srI (e_var (K := K) (i := 15) (R := zI) (x := p_k) rfl rfl) e_int))) (a_cons (e_ixL (e_KL (e_var (K := K) (i := 14) (R := (rK zI)) (x := p_parts) rfl h_p_parts)) (e_add (e_var (K := K) (i := 16) (R := zI) (x := p_at) rfl rfl) e_int)) (a_one (e_ixL (e_KL (e_var (K := K) (i := 14) (R := (rK zI)) (x := p_parts) rfl h_p_parts)) (e_add (e_var (K := K) (i := 16) (R := zI) (x := p_at) rfl rfl) e_int))))))) hs hm (fun p_items vv26 G26 H26 e26 hs hv26 hm => ?_)
                obtain ⟨v_p_items, rfl, h_p_items⟩ := hv26
                have h_p_script := ((rL zI)).mono e26 h_p_script
                have h_p_head := ((rK zI)).mono e26 h_p_head
                have h_p_table := ((rP (rsC zI (rsC zI (rs1 (rT (rT (rP (rsC zI (rs1 zI)))))))))).mono e26 h_p_table
                have h_p_bad := ((rK zI)).mono e26 h_p_bad
                have h_p_rounds := ((rK (rO zI))).mono e26 h_p_rounds
                have h_p_moves := ((rK (rO zI))).mono e26 h_p_moves
                have h_p_due := ((rK (rO zI))).mono e26 h_p_due
                have h_p_passed := ((rK zI)).mono e26 h_p_passed
                have h_p_parts := ((rK zI)).mono e26 h_p_parts
                have b24 := Same.trans b24 e26
                refine (show (_ : TS) _ ([some v_p_script, some v_p_head, some (.int p_inputs), some (.int p_drivers), some (.int p_states), some v_p_table, some v_p_bad, some v_p_rounds, some v_p_moves, some (.bl p_lost), some (.str p_kind), some v_p_due, some v_p_passed, some (.ref q_p_told), some v_p_parts, some (.int p_k), some (.int p_at), some v_p_items, none, none, none, none, none] : L2.St) _ from ?_)
                refine w_ifJ (k := fun s_ => (m_law_j28 p_drivers p_table p_bad p_rounds p_lost p_parts p_k p_at s_)) (fun (p_items : (List (Option Int))) (σ : L2.St) (G : Hp) (O : Own) => ∃ (v_p_items : V), σ = [some v_p_script, some v_p_head, some (.int p_inputs), some (.int p_drivers), some (.int p_states), some v_p_table, some v_p_bad, some v_p_rounds, some v_p_moves, some (.bl p_lost), some (.str p_kind), some v_p_due, some v_p_passed, some (.ref q_p_told), some v_p_parts, some (.int p_k), some (.int p_at), some v_p_items, none, none, none, none, none] ∧ O = [] ∧ ((rK (rO zI))).r K G v_p_items p_items) (t_test (K := K) (e_eq srI (e_ixL (e_KL (e_var (K := K) (i := 14) (R := (rK zI)) (x := p_parts) rfl h_p_parts)) (e_add (e_var (K := K) (i := 16) (R := zI) (x := p_at) rfl rfl) e_int)) e_int)) hs hm (fun p_items σ_ G1_27 G27 O_ H27 e27 w_ e127 hs hm => ?_) (fun G27 H27 J27 e27 hs hm => ?_) (fun G27 H27 J27 e27 hs hm => ?_)
                · obtain ⟨v_p_items, rfl, rfl, h_p_items⟩ := w_
                  have h_p_script := ((rL zI)).mono e27 h_p_script
                  have h_p_head := ((rK zI)).mono e27 h_p_head
                  have h_p_table := ((rP (rsC zI (rsC zI (rs1 (rT (rT (rP (rsC zI (rs1 zI)))))))))).mono e27 h_p_table
                  have h_p_bad := ((rK zI)).mono e27 h_p_bad
                  have h_p_rounds := ((rK (rO zI))).mono e27 h_p_rounds
                  have h_p_moves := ((rK (rO zI))).mono e27 h_p_moves
                  have h_p_due := ((rK (rO zI))).mono e27 h_p_due
                  have h_p_passed := ((rK zI)).mono e27 h_p_passed
                  have h_p_parts := ((rK zI)).mono e27 h_p_parts
                  have h_p_items := ((rK (rO zI))).mono e127 h_p_items
                  have b24 := Same.trans b24 e27
                  refine (show (_ : TS) _ ([some v_p_script, some v_p_head, some (.int p_inputs), some (.int p_drivers), some (.int p_states), some v_p_table, some v_p_bad, some v_p_rounds, some v_p_moves, some (.bl p_lost), some (.str p_kind), some v_p_due, some v_p_passed, some (.ref q_p_told), some v_p_parts, some (.int p_k), some (.int p_at), some v_p_items, none, none, none, none, none] : L2.St) _ from ?_)
                  unfold m_law_j28 at hm
                  try dsimp only at hm
                  refine w_if (t_not (t_val (K := K) (e_call (fm := ⟨H, G, E, cl⟩) (a_cons (e_var (K := K) (i := 5) (R := (rP (rsC zI (rsC zI (rs1 (rT (rT (rP (rsC zI (rs1 zI)))))))))) (x := p_table) rfl h_p_table) (a_cons (e_var (K := K) (i := 3) (R := zI) (x := p_drivers) rfl rfl) (a_cons (e_var (K := K) (i := 6) (R := (rK zI)) (x := p_bad) rfl h_p_bad) (a_cons (e_var (K := K) (i := 17) (R := (rK (rO zI))) (x := p_items) rfl h_p_items) (a_one (e_var (K := K) (i := 9) (R := rB) (x := p_lost) rfl rfl))))))))) hs hm (fun G29 H29 e29 hs hm => ?_) (fun G29 H29 e29 hs hm => ?_)
                  · have h_p_script := ((rL zI)).mono e29 h_p_script
                    have h_p_head := ((rK zI)).mono e29 h_p_head
                    have h_p_table := ((rP (rsC zI (rsC zI (rs1 (rT (rT (rP (rsC zI (rs1 zI)))))))))).mono e29 h_p_table
                    have h_p_bad := ((rK zI)).mono e29 h_p_bad
                    have h_p_rounds := ((rK (rO zI))).mono e29 h_p_rounds
                    have h_p_moves := ((rK (rO zI))).mono e29 h_p_moves
                    have h_p_due := ((rK (rO zI))).mono e29 h_p_due
                    have h_p_passed := ((rK zI)).mono e29 h_p_passed
                    have h_p_parts := ((rK zI)).mono e29 h_p_parts
                    have h_p_items := ((rK (rO zI))).mono e29 h_p_items
                    have b24 := Same.trans b24 e29
                    exact w_ret (K := K) (kr := Tn.rt) e_bl hs hm fun r v G2 H2 hs2 hr2 hq => E24.rt r v _ _ _ hs2 hr2 hq
                  · have h_p_script := ((rL zI)).mono e29 h_p_script
                    have h_p_head := ((rK zI)).mono e29 h_p_head
                    have h_p_table := ((rP (rsC zI (rsC zI (rs1 (rT (rT (rP (rsC zI (rs1 zI)))))))))).mono e29 h_p_table
                    have h_p_bad := ((rK zI)).mono e29 h_p_bad
                    have h_p_rounds := ((rK (rO zI))).mono e29 h_p_rounds
                    have h_p_moves := ((rK (rO zI))).mono e29 h_p_moves
                    have h_p_due := ((rK (rO zI))).mono e29 h_p_due
                    have h_p_passed := ((rK zI)).mono e29 h_p_passed
                    have h_p_parts := ((rK zI)).mono e29 h_p_parts
                    have h_p_items := ((rK (rO zI))).mono e29 h_p_items
                    have b24 := Same.trans b24 e29
                    refine nx_of ?_
                    refine (show (_ : TS) _ ([some v_p_script, some v_p_head, some (.int p_inputs), some (.int p_drivers), some (.int p_states), some v_p_table, some v_p_bad, some v_p_rounds, some v_p_moves, some (.bl p_lost), some (.str p_kind), some v_p_due, some v_p_passed, some (.ref q_p_told), some v_p_parts, some (.int p_k), some (.int p_at), some v_p_items, none, none, none, none, none] : L2.St) _ from ?_)
                    refine w_asg (K := K) (tg_name (i := 17) (R := (rK (rO zI)))) (e_call (fm := ⟨H, G, E, cl⟩) (a_cons (e_var (K := K) (i := 7) (R := (rK (rO zI))) (x := p_rounds) rfl h_p_rounds) (a_cons (e_ixL (e_KL (EvN.evK (e_lst (l_cons (e_ixL (e_KL (e_var (K := K) (i := 14) (R := (rK zI)) (x := p_parts) rfl h_p_parts)) (e_add (e_var (K := K) (i := 16) (R := zI) (x := p_at) rfl rfl) e_int)) (l_cons e_int l_nil)) (by decide)))) (e_intB (e_eq srI (e_var (K := K) (i := 15) (R := zI) (x := p_k) rfl rfl) e_int))) (a_cons (e_ixL (e_KL (e_var (K := K) (i := 14) (R := (rK zI)) (x := p_parts) rfl h_p_parts)) (e_add (e_var (K := K) (i := 16) (R := zI) (x := p_at) rfl rfl) e_int)) (a_one (e_add e_int (e_ixL (e_KL (e_var (K := K) (i := 14) (R := (rK zI)) (x := p_parts) rfl h_p_parts)) (e_add (e_var (K := K) (i := 16) (R := zI) (x := p_at) rfl rfl) e_int)))))))) hs hm (fun p_items vv30 G30 H30 e30 hs hv30 hm => ?_)
                    obtain ⟨v_p_items, rfl, h_p_items⟩ := hv30
                    have h_p_script := ((rL zI)).mono e30 h_p_script
                    have h_p_head := ((rK zI)).mono e30 h_p_head
                    have h_p_table := ((rP (rsC zI (rsC zI (rs1 (rT (rT (rP (rsC zI (rs1 zI)))))))))).mono e30 h_p_table
                    have h_p_bad := ((rK zI)).mono e30 h_p_bad
                    have h_p_rounds := ((rK (rO zI))).mono e30 h_p_rounds
                    have h_p_moves := ((rK (rO zI))).mono e30 h_p_moves
                    have h_p_due := ((rK (rO zI))).mono e30 h_p_due
                    have h_p_passed := ((rK zI)).mono e30 h_p_passed
                    have h_p_parts := ((rK zI)).mono e30 h_p_parts
                    have b24 := Same.trans b24 e30
                    refine (show (_ : TS) _ ([some v_p_script, some v_p_head, some (.int p_inputs), some (.int p_drivers), some (.int p_states), some v_p_table, some v_p_bad, some v_p_rounds, some v_p_moves, some (.bl p_lost), some (.str p_kind), some v_p_due, some v_p_passed, some (.ref q_p_told), some v_p_parts, some (.int p_k), some (.int p_at), some v_p_items, none, none, none, none, none] : L2.St) _ from ?_)
                    refine w_ifJ (k := fun s_ => (m_law_j32 p_drivers p_table p_bad p_lost s_)) (fun (p_items : (List (Option Int))) (σ : L2.St) (G : Hp) (O : Own) => ∃ (v_p_items : V), σ = [some v_p_script, some v_p_head, some (.int p_inputs), some (.int p_drivers), some (.int p_states), some v_p_table, some v_p_bad, some v_p_rounds, some v_p_moves, some (.bl p_lost), some (.str p_kind), some v_p_due, some v_p_passed, some (.ref q_p_told), some v_p_parts, some (.int p_k), some (.int p_at), some v_p_items, none, none, none, none, none] ∧ O = [] ∧ ((rK (rO zI))).r K G v_p_items p_items) (t_test (K := K) (e_eq srI (e_ixL (e_KL (e_var (K := K) (i := 14) (R := (rK zI)) (x := p_parts) rfl h_p_parts)) (e_add (e_var (K := K) (i := 16) (R := zI) (x := p_at) rfl rfl) e_int)) e_int)) hs hm (fun p_items σ_ G1_31 G31 O_ H31 e31 w_ e131 hs hm => ?_) (fun G31 H31 J31 e31 hs hm => ?_) (fun G31 H31 J31 e31 hs hm => ?_)
                    · obtain ⟨v_p_items, rfl, rfl, h_p_items⟩ := w_
                      have h_p_script := ((rL zI)).mono e31 h_p_script
                      have h_p_head := ((rK zI)).mono e31 h_p_head
                      have h_p_table := ((rP (rsC zI (rsC zI (rs1 (rT (rT (rP (rsC zI (rs1 zI)))))))))).mono e31 h_p_table
                      have h_p_bad := ((rK zI)).mono e31 h_p_bad
                      have h_p_rounds := ((rK (rO zI))).mono e31 h_p_rounds
                      have h_p_moves := ((rK (rO zI))).mono e31 h_p_moves
                      have h_p_due := ((rK (rO zI))).mono e31 h_p_due
                      have h_p_passed := ((rK zI)).mono e31 h_p_passed
                      have h_p_parts := ((rK zI)).mono e31 h_p_parts
                      have h_p_items := ((rK (rO zI))).mono e131 h_p_items
                      have b24 := Same.trans b24 e31
                      refine (show (_ : TS) _ ([some v_p_script, some v_p_head, some (.int p_inputs), some (.int p_drivers), some (.int p_states), some v_p_table, some v_p_bad, some v_p_rounds, some v_p_moves, some (.bl p_lost), some (.str p_kind), some v_p_due, some v_p_passed, some (.ref q_p_told), some v_p_parts, some (.int p_k), some (.int p_at), some v_p_items, none, none, none, none, none] : L2.St) _ from ?_)
                      unfold m_law_j32 at hm
                      try dsimp only at hm
                      refine w_if (t_not (t_val (K := K) (e_call (fm := ⟨H, G, E, cl⟩) (a_cons (e_var (K := K) (i := 5) (R := (rP (rsC zI (rsC zI (rs1 (rT (rT (rP (rsC zI (rs1 zI)))))))))) (x := p_table) rfl h_p_table) (a_cons (e_var (K := K) (i := 3) (R := zI) (x := p_drivers) rfl rfl) (a_cons (e_var (K := K) (i := 6) (R := (rK zI)) (x := p_bad) rfl h_p_bad) (a_cons (e_var (K := K) (i := 17) (R := (rK (rO zI))) (x := p_items) rfl h_p_items) (a_one (e_var (K := K) (i := 9) (R := rB) (x := p_lost) rfl rfl))))))))) hs hm (fun G33 H33 e33 hs hm => ?_) (fun G33 H33 e33 hs hm => ?_)
                      · have h_p_script := ((rL zI)).mono e33 h_p_script
                        have h_p_head := ((rK zI)).mono e33 h_p_head
                        have h_p_table := ((rP (rsC zI (rsC zI (rs1 (rT (rT (rP (rsC zI (rs1 zI)))))))))).mono e33 h_p_table
                        have h_p_bad := ((rK zI)).mono e33 h_p_bad
                        have h_p_rounds := ((rK (rO zI))).mono e33 h_p_rounds
                        have h_p_moves := ((rK (rO zI))).mono e33 h_p_moves
                        have h_p_due := ((rK (rO zI))).mono e33 h_p_due
                        have h_p_passed := ((rK zI)).mono e33 h_p_passed
                        have h_p_parts := ((rK zI)).mono e33 h_p_parts
                        have h_p_items := ((rK (rO zI))).mono e33 h_p_items
                        have b24 := Same.trans b24 e33
                        exact w_ret (K := K) (kr := Tn.rt) e_bl hs hm fun r v G2 H2 hs2 hr2 hq => E24.rt r v _ _ _ hs2 hr2 hq
                      · have h_p_script := ((rL zI)).mono e33 h_p_script
                        have h_p_head := ((rK zI)).mono e33 h_p_head
                        have h_p_table := ((rP (rsC zI (rsC zI (rs1 (rT (rT (rP (rsC zI (rs1 zI)))))))))).mono e33 h_p_table
                        have h_p_bad := ((rK zI)).mono e33 h_p_bad
                        have h_p_rounds := ((rK (rO zI))).mono e33 h_p_rounds
                        have h_p_moves := ((rK (rO zI))).mono e33 h_p_moves
                        have h_p_due := ((rK (rO zI))).mono e33 h_p_due
                        have h_p_passed := ((rK zI)).mono e33 h_p_passed
                        have h_p_parts := ((rK zI)).mono e33 h_p_parts
                        have h_p_items := ((rK (rO zI))).mono e33 h_p_items
                        have b24 := Same.trans b24 e33
                        refine nx_of ?_
                        refine (show (_ : TS) _ ([some v_p_script, some v_p_head, some (.int p_inputs), some (.int p_drivers), some (.int p_states), some v_p_table, some v_p_bad, some v_p_rounds, some v_p_moves, some (.bl p_lost), some (.str p_kind), some v_p_due, some v_p_passed, some (.ref q_p_told), some v_p_parts, some (.int p_k), some (.int p_at), some v_p_items, none, none, none, none, none] : L2.St) _ from ?_)
                        exact E24.nx () _ _ _ _ _ b24 ⟨some (.int p_k), some (.int p_at), some v_p_items, rfl, rfl⟩ (Same.refl _) hs hm.out
                    · have h_p_script := ((rL zI)).mono e31 h_p_script
                      have h_p_head := ((rK zI)).mono e31 h_p_head
                      have h_p_table := ((rP (rsC zI (rsC zI (rs1 (rT (rT (rP (rsC zI (rs1 zI)))))))))).mono e31 h_p_table
                      have h_p_bad := ((rK zI)).mono e31 h_p_bad
                      have h_p_rounds := ((rK (rO zI))).mono e31 h_p_rounds
                      have h_p_moves := ((rK (rO zI))).mono e31 h_p_moves
                      have h_p_due := ((rK (rO zI))).mono e31 h_p_due
                      have h_p_passed := ((rK zI)).mono e31 h_p_passed
                      have h_p_parts := ((rK zI)).mono e31 h_p_parts
                      have h_p_items := ((rK (rO zI))).mono e31 h_p_items
                      have b24 := Same.trans b24 e31
                      have b31 := Same.refl G31
                      refine w_asg (K := K) (tg_name (i := 17) (R := (rK (rO zI)))) (EvN.evK (n_lc (S := (rO zI)) (i_list (e_KL (e_var (K := K) (i := 17) (R := (rK (rO zI))) (x := p_items) rfl h_p_items))) (fun _ h => nomatch h) (tg_name (i := 21) (R := (rO zI))) (by decide) (fun x34 vs34 G34 e34 hv34 => by
                       obtain ⟨v34_p_item, rfl, h34_p_item⟩ := hv34
                       exact ⟨t_yes, (e_some nn_I (e_add (e_get (e_ixL (e_KL (EvN.evK (e_lst (l_cons (e_var (K := K) (i := 21) (R := (rO zI)) (x := x34) rfl h34_p_item) (l_cons (e_some nn_I e_int) l_nil)) (by decide)))) (e_intB (e_isN (e_var (K := K) (i := 21) (R := (rO zI)) (x := x34) rfl h34_p_item))))) e_int))⟩))) hs hm (fun p_items vv35 G35 H35 e35 hs hv35 hm => ?_)
                      obtain ⟨v_p_items, rfl, h_p_items⟩ := hv35
                      have h_p_script := ((rL zI)).mono e35 h_p_script
                      have h_p_head := ((rK zI)).mono e35 h_p_head
                      have h_p_table := ((rP (rsC zI (rsC zI (rs1 (rT (rT (rP (rsC zI (rs1 zI)))))))))).mono e35 h_p_table
                      have h_p_bad := ((rK zI)).mono e35 h_p_bad
                      have h_p_rounds := ((rK (rO zI))).mono e35 h_p_rounds
                      have h_p_moves := ((rK (rO zI))).mono e35 h_p_moves
                      have h_p_due := ((rK (rO zI))).mono e35 h_p_due
                      have h_p_passed := ((rK zI)).mono e35 h_p_passed
                      have h_p_parts := ((rK zI)).mono e35 h_p_parts
                      have b24 := Same.trans b24 e35
                      have b31 := Same.trans b31 e35
                      refine (show (_ : TS) _ ([some v_p_script, some v_p_head, some (.int p_inputs), some (.int p_drivers), some (.int p_states), some v_p_table, some v_p_bad, some v_p_rounds, some v_p_moves, some (.bl p_lost), some (.str p_kind), some v_p_due, some v_p_passed, some (.ref q_p_told), some v_p_parts, some (.int p_k), some (.int p_at), some v_p_items, none, none, none, none, none] : L2.St) _ from ?_)
                      exact J31.nx p_items _ _ _ _ _ b31 ⟨v_p_items, rfl, rfl, h_p_items⟩ (Same.refl _) hs hm
                    · have h_p_script := ((rL zI)).mono e31 h_p_script
                      have h_p_head := ((rK zI)).mono e31 h_p_head
                      have h_p_table := ((rP (rsC zI (rsC zI (rs1 (rT (rT (rP (rsC zI (rs1 zI)))))))))).mono e31 h_p_table
                      have h_p_bad := ((rK zI)).mono e31 h_p_bad
                      have h_p_rounds := ((rK (rO zI))).mono e31 h_p_rounds
                      have h_p_moves := ((rK (rO zI))).mono e31 h_p_moves
                      have h_p_due := ((rK (rO zI))).mono e31 h_p_due
                      have h_p_passed := ((rK zI)).mono e31 h_p_passed
                      have h_p_parts := ((rK zI)).mono e31 h_p_parts
                      have h_p_items := ((rK (rO zI))).mono e31 h_p_items
                      have b24 := Same.trans b24 e31
                      have b31 := Same.refl G31
                      exact J31.nx p_items _ _ _ _ _ b31 ⟨v_p_items, rfl, rfl, h_p_items⟩ (Same.refl _) hs hm
                · have h_p_script := ((rL zI)).mono e27 h_p_script
                  have h_p_head := ((rK zI)).mono e27 h_p_head
                  have h_p_table := ((rP (rsC zI (rsC zI (rs1 (rT (rT (rP (rsC zI (rs1 zI)))))))))).mono e27 h_p_table
                  have h_p_bad := ((rK zI)).mono e27 h_p_bad
                  have h_p_rounds := ((rK (rO zI))).mono e27 h_p_rounds
                  have h_p_moves := ((rK (rO zI))).mono e27 h_p_moves
                  have h_p_due := ((rK (rO zI))).mono e27 h_p_due
                  have h_p_passed := ((rK zI)).mono e27 h_p_passed
                  have h_p_parts := ((rK zI)).mono e27 h_p_parts
                  have h_p_items := ((rK (rO zI))).mono e27 h_p_items
                  have b24 := Same.trans b24 e27
                  have b27 := Same.refl G27
                  refine w_asg (K := K) (tg_name (i := 17) (R := (rK (rO zI)))) (EvN.evK (n_lc (S := (rO zI)) (i_list (e_KL (e_var (K := K) (i := 17) (R := (rK (rO zI))) (x := p_items) rfl h_p_items))) (fun _ h => nomatch h) (tg_name (i := 21) (R := (rO zI))) (by decide) (fun x36 vs36 G36 e36 hv36 => by
                   obtain ⟨v36_p_item, rfl, h36_p_item⟩ := hv36
                   exact ⟨t_yes, (e_ixL (e_KL (EvN.evK (e_lst (l_cons (e_var (K := K) (i := 21) (R := (rO zI)) (x := x36) rfl h36_p_item) (l_cons (e_some nn_I e_int) l_nil)) (by decide)))) (e_intB (e_isN (e_var (K := K) (i := 21) (R := (rO zI)) (x := x36) rfl h36_p_item))))⟩))) hs hm (fun p_items vv37 G37 H37 e37 hs hv37 hm => ?_)
                  obtain ⟨v_p_items, rfl, h_p_items⟩ := hv37
                  have h_p_script := ((rL zI)).mono e37 h_p_script
                  have h_p_head := ((rK zI)).mono e37 h_p_head
                  have h_p_table := ((rP (rsC zI (rsC zI (rs1 (rT (rT (rP (rsC zI (rs1 zI)))))))))).mono e37 h_p_table
                  have h_p_bad := ((rK zI)).mono e37 h_p_bad
                  have h_p_rounds := ((rK (rO zI))).mono e37 h_p_rounds
                  have h_p_moves := ((rK (rO zI))).mono e37 h_p_moves
                  have h_p_due := ((rK (rO zI))).mono e37 h_p_due
                  have h_p_passed := ((rK zI)).mono e37 h_p_passed
                  have h_p_parts := ((rK zI)).mono e37 h_p_parts
                  have b24 := Same.trans b24 e37
                  have b27 := Same.trans b27 e37
                  refine (show (_ : TS) _ ([some v_p_script, some v_p_head, some (.int p_inputs), some (.int p_drivers), some (.int p_states), some v_p_table, some v_p_bad, some v_p_rounds, some v_p_moves, some (.bl p_lost), some (.str p_kind), some v_p_due, some v_p_passed, some (.ref q_p_told), some v_p_parts, some (.int p_k), some (.int p_at), some v_p_items, none, none, none, none, none] : L2.St) _ from ?_)
                  exact J27.nx p_items _ _ _ _ _ b27 ⟨v_p_items, rfl, rfl, h_p_items⟩ (Same.refl _) hs hm
                · have h_p_script := ((rL zI)).mono e27 h_p_script
                  have h_p_head := ((rK zI)).mono e27 h_p_head
                  have h_p_table := ((rP (rsC zI (rsC zI (rs1 (rT (rT (rP (rsC zI (rs1 zI)))))))))).mono e27 h_p_table
                  have h_p_bad := ((rK zI)).mono e27 h_p_bad
                  have h_p_rounds := ((rK (rO zI))).mono e27 h_p_rounds
                  have h_p_moves := ((rK (rO zI))).mono e27 h_p_moves
                  have h_p_due := ((rK (rO zI))).mono e27 h_p_due
                  have h_p_passed := ((rK zI)).mono e27 h_p_passed
                  have h_p_parts := ((rK zI)).mono e27 h_p_parts
                  have h_p_items := ((rK (rO zI))).mono e27 h_p_items
                  have b24 := Same.trans b24 e27
                  have b27 := Same.refl G27
                  exact J27.nx p_items _ _ _ _ _ b27 ⟨v_p_items, rfl, rfl, h_p_items⟩ (Same.refl _) hs hm
              · obtain ⟨d_15, d_16, d_17, rfl, rfl⟩ := w_
                have h_p_script := ((rL zI)).mono e24 h_p_script
                have h_p_head := ((rK zI)).mono e24 h_p_head
                have h_p_table := ((rP (rsC zI (rsC zI (rs1 (rT (rT (rP (rsC zI (rs1 zI)))))))))).mono e24 h_p_table
                have h_p_bad := ((rK zI)).mono e24 h_p_bad
                have h_p_rounds := ((rK (rO zI))).mono e24 h_p_rounds
                have h_p_moves := ((rK (rO zI))).mono e24 h_p_moves
                have h_p_due := ((rK (rO zI))).mono e24 h_p_due
                have h_p_passed := ((rK zI)).mono e24 h_p_passed
                have h_p_parts := ((rK zI)).mono e24 h_p_parts
                refine (show (_ : TS) _ ([some v_p_script, some v_p_head, some (.int p_inputs), some (.int p_drivers), some (.int p_states), some v_p_table, some v_p_bad, some v_p_rounds, some v_p_moves, some (.bl p_lost), some (.str p_kind), some v_p_due, some v_p_passed, some (.ref q_p_told), some v_p_parts, d_15, d_16, d_17, none, none, none, none, none] : L2.St) _ from ?_)
                try dsimp only at hm
                refine w_asg (K := K) (tg_name (i := 18) (R := zI)) (e_ixL (e_KL (EvN.evK (e_lst (l_cons (e_sub (e_neg e_int) (e_ixL (e_KL (e_var (K := K) (i := 1) (R := (rK zI)) (x := p_head) rfl h_p_head)) e_int)) (l_cons (e_add (e_add (e_var (K := K) (i := 2) (R := zI) (x := p_inputs) rfl rfl) e_int) (e_ixL (e_KL (e_var (K := K) (i := 1) (R := (rK zI)) (x := p_head) rfl h_p_head)) e_int)) l_nil)) (by decide)))) (e_mod (e_intI (e_ixL (e_KL (e_var (K := K) (i := 1) (R := (rK zI)) (x := p_head) rfl h_p_head)) e_int)) e_int)) hs hm (fun p_wrong vv38 G38 H38 e38 hs hv38 hm => ?_)
                obtain ⟨v_p_wrong, rfl, h_p_wrong⟩ := hv38
                cases (show v_p_wrong = V.int p_wrong from h_p_wrong)
                have h_p_script := ((rL zI)).mono e38 h_p_script
                have h_p_head := ((rK zI)).mono e38 h_p_head
                have h_p_table := ((rP (rsC zI (rsC zI (rs1 (rT (rT (rP (rsC zI (rs1 zI)))))))))).mono e38 h_p_table
                have h_p_bad := ((rK zI)).mono e38 h_p_bad
                have h_p_rounds := ((rK (rO zI))).mono e38 h_p_rounds
                have h_p_moves := ((rK (rO zI))).mono e38 h_p_moves
                have h_p_due := ((rK (rO zI))).mono e38 h_p_due
                have h_p_passed := ((rK zI)).mono e38 h_p_passed
                have h_p_parts := ((rK zI)).mono e38 h_p_parts
                refine (show (_ : TS) _ ([some v_p_script, some v_p_head, some (.int p_inputs), some (.int p_drivers), some (.int p_states), some v_p_table, some v_p_bad, some v_p_rounds, some v_p_moves, some (.bl p_lost), some (.str p_kind), some v_p_due, some v_p_passed, some (.ref q_p_told), some v_p_parts, d_15, d_16, d_17, some (.int p_wrong), none, none, none, none] : L2.St) _ from ?_)
                refine w_forB (K := K) (Rr := rB) (fun (_ : Unit) (σ : L2.St) (G : Hp) (O : Own) => ∃ (d_19 : Option V), σ = [some v_p_script, some v_p_head, some (.int p_inputs), some (.int p_drivers), some (.int p_states), some v_p_table, some v_p_bad, some v_p_rounds, some v_p_moves, some (.bl p_lost), some (.str p_kind), some v_p_due, some v_p_passed, some (.ref q_p_told), some v_p_parts, d_15, d_16, d_17, some (.int p_wrong), d_19, none, none, none] ∧ O = []) (i_rng1 e_int) (fun _ _ _ _ _ _ h => nomatch h) (tg_name (i := 19) (R := zI)) hs hm ⟨none, rfl, rfl⟩ (fun r v G2 O2 H2 hs2 hr2 hq => hq v G2 H2 hs2.fin hr2) (fun p_which s_ σ_ G1_39 G39 O_ H39 vv39 D39 Qb39 e39 w_ e139 hs hv39 E39 hm => ?_) (fun s_ σ_ G1_39 G39 O_ H39 e39 w_ e139 hs hm => ?_)
                · obtain ⟨d_19, rfl, rfl⟩ := w_
                  have h_p_script := ((rL zI)).mono e39 h_p_script
                  have h_p_head := ((rK zI)).mono e39 h_p_head
                  have h_p_table := ((rP (rsC zI (rsC zI (rs1 (rT (rT (rP (rsC zI (rs1 zI)))))))))).mono e39 h_p_table
                  have h_p_bad := ((rK zI)).mono e39 h_p_bad
                  have h_p_rounds := ((rK (rO zI))).mono e39 h_p_rounds
                  have h_p_moves := ((rK (rO zI))).mono e39 h_p_moves
                  have h_p_due := ((rK (rO zI))).mono e39 h_p_due
                  have h_p_passed := ((rK zI)).mono e39 h_p_passed
                  have h_p_parts := ((rK zI)).mono e39 h_p_parts
                  obtain ⟨v_p_which, rfl, h_p_which⟩ := hv39
                  cases (show v_p_which = V.int p_which from h_p_which)
                  have b39 := Same.refl G39
                  refine (show (_ : TS) _ ([some v_p_script, some v_p_head, some (.int p_inputs), some (.int p_drivers), some (.int p_states), some v_p_table, some v_p_bad, some v_p_rounds, some v_p_moves, some (.bl p_lost), some (.str p_kind), some v_p_due, some v_p_passed, some (.ref q_p_told), some v_p_parts, d_15, d_16, d_17, some (.int p_wrong), some (.int p_which), none, none, none] : L2.St) _ from ?_)
                  unfold m_law_b43 at hm
                  try dsimp only at hm
                  refine w_if (t_test (K := K) (e_ne srI (e_call (fm := ⟨H, G, E, cl⟩) (a_cons (e_var (K := K) (i := 19) (R := zI) (x := p_which) rfl rfl) (a_cons (e_var (K := K) (i := 5) (R := (rP (rsC zI (rsC zI (rs1 (rT (rT (rP (rsC zI (rs1 zI)))))))))) (x := p_table) rfl h_p_table) (a_cons (e_var (K := K) (i := 18) (R := zI) (x := p_wrong) rfl rfl) (a_cons (EvN.evK (n_list sq_K (e_var (K := K) (i := 6) (R := (rK zI)) (x := p_bad) rfl h_p_bad))) (a_one (EvN.evK (n_lc (S := (rO zI)) (i_tup (e_proj (k := 2) (pjS (pjS pj1)) (e_var (K := K) (i := 5) (R := (rP (rsC zI (rsC zI (rs1 (rT (rT (rP (rsC zI (rs1 zI)))))))))) (x := p_table) rfl h_p_table))) (fun _ h => nomatch h) (tg_name (i := 22) (R := (rT (rP (rsC zI (rs1 zI)))))) (by decide) (fun x41 vs41 G41 e41 hv41 => by
                   obtain ⟨v41_p_row, rfl, h41_p_row⟩ := hv41
                   exact ⟨t_yes, (e_some nn_I e_int)⟩))))))))) e_int)) hs hm (fun G42 H42 e42 hs hm => ?_) (fun G42 H42 e42 hs hm => ?_)
                  · have h_p_script := ((rL zI)).mono e42 h_p_script
                    have h_p_head := ((rK zI)).mono e42 h_p_head
                    have h_p_table := ((rP (rsC zI (rsC zI (rs1 (rT (rT (rP (rsC zI (rs1 zI)))))))))).mono e42 h_p_table
                    have h_p_bad := ((rK zI)).mono e42 h_p_bad
                    have h_p_rounds := ((rK (rO zI))).mono e42 h_p_rounds
                    have h_p_moves := ((rK (rO zI))).mono e42 h_p_moves
                    have h_p_due := ((rK (rO zI))).mono e42 h_p_due
                    have h_p_passed := ((rK zI)).mono e42 h_p_passed
                    have h_p_parts := ((rK zI)).mono e42 h_p_parts
                    have b39 := Same.trans b39 e42
                    exact w_ret (K := K) (kr := Tn.rt) e_bl hs hm fun r v G2 H2 hs2 hr2 hq => E39.rt r v _ _ _ hs2 hr2 hq
                  · have h_p_script := ((rL zI)).mono e42 h_p_script
                    have h_p_head := ((rK zI)).mono e42 h_p_head
                    have h_p_table := ((rP (rsC zI (rsC zI (rs1 (rT (rT (rP (rsC zI (rs1 zI)))))))))).mono e42 h_p_table
                    have h_p_bad := ((rK zI)).mono e42 h_p_bad
                    have h_p_rounds := ((rK (rO zI))).mono e42 h_p_rounds
                    have h_p_moves := ((rK (rO zI))).mono e42 h_p_moves
                    have h_p_due := ((rK (rO zI))).mono e42 h_p_due
                    have h_p_passed := ((rK zI)).mono e42 h_p_passed
                    have h_p_parts := ((rK zI)).mono e42 h_p_parts
                    have b39 := Same.trans b39 e42
                    refine nx_of ?_
                    refine (show (_ : TS) _ ([some v_p_script, some v_p_head, some (.int p_inputs), some (.int p_drivers), some (.int p_states), some v_p_table, some v_p_bad, some v_p_rounds, some v_p_moves, some (.bl p_lost), some (.str p_kind), some v_p_due, some v_p_passed, some (.ref q_p_told), some v_p_parts, d_15, d_16, d_17, some (.int p_wrong), some (.int p_which), none, none, none] : L2.St) _ from ?_)
                    exact E39.nx () _ _ _ _ _ b39 ⟨some (.int p_which), rfl, rfl⟩ (Same.refl _) hs hm.out
                · obtain ⟨d_19, rfl, rfl⟩ := w_
                  have h_p_script := ((rL zI)).mono e39 h_p_script
                  have h_p_head := ((rK zI)).mono e39 h_p_head
                  have h_p_table := ((rP (rsC zI (rsC zI (rs1 (rT (rT (rP (rsC zI (rs1 zI)))))))))).mono e39 h_p_table
                  have h_p_bad := ((rK zI)).mono e39 h_p_bad
                  have h_p_rounds := ((rK (rO zI))).mono e39 h_p_rounds
                  have h_p_moves := ((rK (rO zI))).mono e39 h_p_moves
                  have h_p_due := ((rK (rO zI))).mono e39 h_p_due
                  have h_p_passed := ((rK zI)).mono e39 h_p_passed
                  have h_p_parts := ((rK zI)).mono e39 h_p_parts
                  refine (show (_ : TS) _ ([some v_p_script, some v_p_head, some (.int p_inputs), some (.int p_drivers), some (.int p_states), some v_p_table, some v_p_bad, some v_p_rounds, some v_p_moves, some (.bl p_lost), some (.str p_kind), some v_p_due, some v_p_passed, some (.ref q_p_told), some v_p_parts, d_15, d_16, d_17, some (.int p_wrong), d_19, none, none, none] : L2.St) _ from ?_)
                  try dsimp only at hm
                  exact w_ret0 (K := K) e_bl hs hm fun r v G2 H2 hs2 hr2 hq => hq v G2 H2 hs2.fin hr2
      · have h_p_script := ((rL zI)).mono e10 h_p_script
        have h_p_head := ((rK zI)).mono e10 h_p_head
        have h_p_table := ((rP (rsC zI (rsC zI (rs1 (rT (rT (rP (rsC zI (rs1 zI)))))))))).mono e10 h_p_table
        have h_p_bad := ((rK zI)).mono e10 h_p_bad
        have b10 := Same.refl G10
        refine w_asg (K := K) (tg_name (i := 6) (R := (rK zI))) (EvN.evK (n_cat (EvN.evK (n_cat (e_var (K := K) (i := 6) (R := (rK zI)) (x := p_bad) rfl h_p_bad) (EvN.evK (n_slice (e_KL (e_var (K := K) (i := 6) (R := (rK zI)) (x := p_bad) rfl h_p_bad)) o_none (o_some (K := K) e_int))))) (EvN.evK (e_lst (l_cons e_int l_nil) (by decide))))) hs hm (fun p_bad vv45 G45 H45 e45 hs hv45 hm => ?_)
        obtain ⟨v_p_bad, rfl, h_p_bad⟩ := hv45
        have h_p_script := ((rL zI)).mono e45 h_p_script
        have h_p_head := ((rK zI)).mono e45 h_p_head
        have h_p_table := ((rP (rsC zI (rsC zI (rs1 (rT (rT (rP (rsC zI (rs1 zI)))))))))).mono e45 h_p_table
        have b10 := Same.trans b10 e45
        refine (show (_ : TS) _ ([some v_p_script, some v_p_head, some (.int p_inputs), some (.int p_drivers), some (.int p_states), some v_p_table, some v_p_bad, none, none, none, none, none, none, none, none, none, none, none, none, none, none, none, none] : L2.St) _ from ?_)
        exact J10.nx p_bad _ _ _ _ _ b10 ⟨v_p_bad, rfl, rfl, h_p_bad⟩ (Same.refl _) hs hm
      · have h_p_script := ((rL zI)).mono e10 h_p_script
        have h_p_head := ((rK zI)).mono e10 h_p_head
        have h_p_table := ((rP (rsC zI (rsC zI (rs1 (rT (rT (rP (rsC zI (rs1 zI)))))))))).mono e10 h_p_table
        have h_p_bad := ((rK zI)).mono e10 h_p_bad
        have b10 := Same.refl G10
        exact J10.nx p_bad _ _ _ _ _ b10 ⟨v_p_bad, rfl, rfl, h_p_bad⟩ (Same.refl _) hs hm
    · have h_p_script := ((rL zI)).mono e6 h_p_script
      have h_p_head := ((rK zI)).mono e6 h_p_head
      have h_p_table := ((rP (rsC zI (rsC zI (rs1 (rT (rT (rP (rsC zI (rs1 zI)))))))))).mono e6 h_p_table
      have b6 := Same.refl G6
      refine w_asg (K := K) (tg_name (i := 5) (R := (rP (rsC zI (rsC zI (rs1 (rT (rT (rP (rsC zI (rs1 zI))))))))))) (e_call (fm := ⟨H, G, E, cl⟩) (a_cons (e_var (K := K) (i := 5) (R := (rP (rsC zI (rsC zI (rs1 (rT (rT (rP (rsC zI (rs1 zI)))))))))) (x := p_table) rfl h_p_table) (a_cons (e_var (K := K) (i := 3) (R := zI) (x := p_drivers) rfl rfl) (a_one (e_call (fm := ⟨H, G, E, cl⟩) (a_cons (e_var (K := K) (i := 0) (R := (rL zI)) (x := p_script) rfl h_p_script) (a_one e_int))))))) hs hm (fun p_table vv46 G46 H46 e46 hs hv46 hm => ?_)
      obtain ⟨v_p_table, rfl, h_p_table⟩ := hv46
      have h_p_script := ((rL zI)).mono e46 h_p_script
      have h_p_head := ((rK zI)).mono e46 h_p_head
      have b6 := Same.trans b6 e46
      refine (show (_ : TS) _ ([some v_p_script, some v_p_head, some (.int p_inputs), some (.int p_drivers), some (.int p_states), some v_p_table, none, none, none, none, none, none, none, none, none, none, none, none, none, none, none, none, none] : L2.St) _ from ?_)
      exact J6.nx p_table _ _ _ _ _ b6 ⟨v_p_table, rfl, rfl, h_p_table⟩ (Same.refl _) hs hm
    · have h_p_script := ((rL zI)).mono e6 h_p_script
      have h_p_head := ((rK zI)).mono e6 h_p_head
      have h_p_table := ((rP (rsC zI (rsC zI (rs1 (rT (rT (rP (rsC zI (rs1 zI)))))))))).mono e6 h_p_table
      have b6 := Same.refl G6
      exact J6.nx p_table _ _ _ _ _ b6 ⟨v_p_table, rfl, rfl, h_p_table⟩ (Same.refl _) hs hm
end G94

namespace G94
open PySem PySem.Spec PyProof.Rows L2 Mw
def spLaw (K : PySem.W.Frag) : Sp := fun vs H Q _ => ∃ (a : Addr) (ns : List Int), vs = [.ref a] ∧ SqL K H a (ns.map V.int) ∧ ns.length ≤ 63 ∧ ∀ H', Q (.bl true) H'
theorem paired_ints : ∀ {K : PySem.W.Frag} {G : Hp} (ns : List Int), RLs zI K G (ns.map V.int) ns
  | _, _, [] => .nil
  | _, _, _ :: ns => .cons rfl (paired_ints ns)
theorem spLaw_imp {K : PySem.W.Frag} {cl : Nat → Addr} (vs : List V) (H : Hp) (Q : VK) (E : XK) (h : spLaw K vs H Q E) : spP K cl (rs1 (rL zI)) rB (fun a => m_law a) vs H Q E := by
  obtain ⟨a, ns, rfl, hS, hl, k⟩ := h
  refine ⟨H, ns, Same.refl _, ⟨_, rfl, a, _, rfl, hS, paired_ints ns⟩, .mk ?_⟩
  show (m_law ns).wp _ _
  rw [law_true ns hl]
  exact fun v G' H' st r => by cases (show v = V.bl true from r); exact k H'
theorem all_mk {P : Program} {w : World} {K : PySem.W.Frag} {h : Heap} {mg : Str → Option Value} {fa : Addr} (X : K.In h) (G : h.Ns mainGlobals mg) (hfa : mg "law" = some (.ref fa))
    {f_state_count f_check_driver f_outcomes f_holds f_good_moves f_lost_rounds f_play_game f_is_move f_shows_safe f_is_spoilt f_shows_lost f_check_moves f_driven_table f_law_far f_law_parts f_law_is_integer f_law_drawn f_law_same_table f_law_chained f_law_outcomes f_law_rounds f_law_moves f_law_usable f_law_safe f_law_lost f_law_driven f_law_changed f_law_error f_law_same_told f_law_right_moves f_law_right_rounds f_law : Addr}
    {od_state_count an_state_count od_check_driver an_check_driver od_outcomes an_outcomes od_holds an_holds od_good_moves an_good_moves od_lost_rounds an_lost_rounds od_play_game an_play_game od_is_move an_is_move od_shows_safe an_shows_safe od_is_spoilt an_is_spoilt od_shows_lost an_shows_lost od_check_moves an_check_moves od_driven_table an_driven_table od_law_far an_law_far od_law_parts an_law_parts od_law_is_integer an_law_is_integer od_law_drawn an_law_drawn od_law_same_table an_law_same_table od_law_chained an_law_chained od_law_outcomes an_law_outcomes od_law_rounds an_law_rounds od_law_moves an_law_moves od_law_usable an_law_usable od_law_safe an_law_safe od_law_lost an_law_lost od_law_driven an_law_driven od_law_changed an_law_changed od_law_error an_law_error od_law_same_told an_law_same_told od_law_right_moves an_law_right_moves od_law_right_rounds an_law_right_rounds od_law an_law : Option Addr}
    {sl_state_count sl_check_driver sl_outcomes sl_holds sl_good_moves sl_lost_rounds sl_play_game sl_is_move sl_shows_safe sl_is_spoilt sl_shows_lost sl_check_moves sl_driven_table sl_law_far sl_law_parts sl_law_is_integer sl_law_drawn sl_law_same_table sl_law_chained sl_law_outcomes sl_law_rounds sl_law_moves sl_law_usable sl_law_safe sl_law_lost sl_law_driven sl_law_changed sl_law_error sl_law_same_told sl_law_right_moves sl_law_right_rounds sl_law : Array (Option Value)}
    {oc_state_count kV_state_count dc_state_count pm_state_count cd_state_count ct_state_count oc_check_driver kV_check_driver dc_check_driver pm_check_driver cd_check_driver ct_check_driver oc_outcomes kV_outcomes dc_outcomes pm_outcomes cd_outcomes ct_outcomes oc_holds kV_holds dc_holds pm_holds cd_holds ct_holds oc_good_moves kV_good_moves dc_good_moves pm_good_moves cd_good_moves ct_good_moves oc_lost_rounds kV_lost_rounds dc_lost_rounds pm_lost_rounds cd_lost_rounds ct_lost_rounds oc_play_game kV_play_game dc_play_game pm_play_game cd_play_game ct_play_game oc_is_move kV_is_move dc_is_move pm_is_move cd_is_move ct_is_move oc_shows_safe kV_shows_safe dc_shows_safe pm_shows_safe cd_shows_safe ct_shows_safe oc_is_spoilt kV_is_spoilt dc_is_spoilt pm_is_spoilt cd_is_spoilt ct_is_spoilt oc_shows_lost kV_shows_lost dc_shows_lost pm_shows_lost cd_shows_lost ct_shows_lost oc_check_moves kV_check_moves dc_check_moves pm_check_moves cd_check_moves ct_check_moves oc_driven_table kV_driven_table dc_driven_table pm_driven_table cd_driven_table ct_driven_table oc_law_far kV_law_far dc_law_far pm_law_far cd_law_far ct_law_far oc_law_parts kV_law_parts dc_law_parts pm_law_parts cd_law_parts ct_law_parts oc_law_is_integer kV_law_is_integer dc_law_is_integer pm_law_is_integer cd_law_is_integer ct_law_is_integer oc_law_drawn kV_law_drawn dc_law_drawn pm_law_drawn cd_law_drawn ct_law_drawn oc_law_same_table kV_law_same_table dc_law_same_table pm_law_same_table cd_law_same_table ct_law_same_table oc_law_chained kV_law_chained dc_law_chained pm_law_chained cd_law_chained ct_law_chained oc_law_outcomes kV_law_outcomes dc_law_outcomes pm_law_outcomes cd_law_outcomes ct_law_outcomes oc_law_rounds kV_law_rounds dc_law_rounds pm_law_rounds cd_law_rounds ct_law_rounds oc_law_moves kV_law_moves dc_law_moves pm_law_moves cd_law_moves ct_law_moves oc_law_usable kV_law_usable dc_law_usable pm_law_usable cd_law_usable ct_law_usable oc_law_safe kV_law_safe dc_law_safe pm_law_safe cd_law_safe ct_law_safe oc_law_lost kV_law_lost dc_law_lost pm_law_lost cd_law_lost ct_law_lost oc_law_driven kV_law_driven dc_law_driven pm_law_driven cd_law_driven ct_law_driven oc_law_changed kV_law_changed dc_law_changed pm_law_changed cd_law_changed ct_law_changed oc_law_error kV_law_error dc_law_error pm_law_error cd_law_error ct_law_error oc_law_same_told kV_law_same_told dc_law_same_told pm_law_same_told cd_law_same_told ct_law_same_told oc_law_right_moves kV_law_right_moves dc_law_right_moves pm_law_right_moves cd_law_right_moves ct_law_right_moves oc_law_right_rounds kV_law_right_rounds dc_law_right_rounds pm_law_right_rounds cd_law_right_rounds ct_law_right_rounds oc_law kV_law dc_law pm_law cd_law ct_law : Value}
    {t_ROWS : _}
    {C0 C1 C2 : Addr}
    (a_state_count : PySem.W.nsIn K mainGlobals "state_count" = some (some (.ref f_state_count)))
    (l_state_count : K.lookup f_state_count = some ⟨oc_state_count, od_state_count, .func (PySem.W.fnOf "state_count" "state_count" (defArgs s_state_count) (defBody s_state_count) (defScope s_state_count) .none kV_state_count dc_state_count pm_state_count an_state_count cd_state_count ct_state_count), sl_state_count⟩)
    (c_state_count : PySem.W.codeIn K cd_state_count "state_count" = true)
    (k_state_count : PySem.W.keepIn K (.ref f_state_count) = true)
    (a_check_driver : PySem.W.nsIn K mainGlobals "check_driver" = some (some (.ref f_check_driver)))
    (l_check_driver : K.lookup f_check_driver = some ⟨oc_check_driver, od_check_driver, .func (PySem.W.fnOf "check_driver" "check_driver" (defArgs s_check_driver) (defBody s_check_driver) (defScope s_check_driver) .none kV_check_driver dc_check_driver pm_check_driver an_check_driver cd_check_driver ct_check_driver), sl_check_driver⟩)
    (c_check_driver : PySem.W.codeIn K cd_check_driver "check_driver" = true)
    (k_check_driver : PySem.W.keepIn K (.ref f_check_driver) = true)
    (a_outcomes : PySem.W.nsIn K mainGlobals "outcomes" = some (some (.ref f_outcomes)))
    (l_outcomes : K.lookup f_outcomes = some ⟨oc_outcomes, od_outcomes, .func (PySem.W.fnOf "outcomes" "outcomes" (defArgs s_outcomes) (defBody s_outcomes) (defScope s_outcomes) .none kV_outcomes dc_outcomes pm_outcomes an_outcomes cd_outcomes ct_outcomes), sl_outcomes⟩)
    (c_outcomes : PySem.W.codeIn K cd_outcomes "outcomes" = true)
    (k_outcomes : PySem.W.keepIn K (.ref f_outcomes) = true)
    (a_holds : PySem.W.nsIn K mainGlobals "holds" = some (some (.ref f_holds)))
    (l_holds : K.lookup f_holds = some ⟨oc_holds, od_holds, .func (PySem.W.fnOf "holds" "holds" (defArgs s_holds) (defBody s_holds) (defScope s_holds) .none kV_holds dc_holds pm_holds an_holds cd_holds ct_holds), sl_holds⟩)
    (c_holds : PySem.W.codeIn K cd_holds "holds" = true)
    (k_holds : PySem.W.keepIn K (.ref f_holds) = true)
    (a_good_moves : PySem.W.nsIn K mainGlobals "good_moves" = some (some (.ref f_good_moves)))
    (l_good_moves : K.lookup f_good_moves = some ⟨oc_good_moves, od_good_moves, .func (PySem.W.fnOf "good_moves" "good_moves" (defArgs s_good_moves) (defBody s_good_moves) (defScope s_good_moves) .none kV_good_moves dc_good_moves pm_good_moves an_good_moves cd_good_moves ct_good_moves), sl_good_moves⟩)
    (c_good_moves : PySem.W.codeIn K cd_good_moves "good_moves" = true)
    (k_good_moves : PySem.W.keepIn K (.ref f_good_moves) = true)
    (a_lost_rounds : PySem.W.nsIn K mainGlobals "lost_rounds" = some (some (.ref f_lost_rounds)))
    (l_lost_rounds : K.lookup f_lost_rounds = some ⟨oc_lost_rounds, od_lost_rounds, .func (PySem.W.fnOf "lost_rounds" "lost_rounds" (defArgs s_lost_rounds) (defBody s_lost_rounds) (defScope s_lost_rounds) .none kV_lost_rounds dc_lost_rounds pm_lost_rounds an_lost_rounds cd_lost_rounds ct_lost_rounds), sl_lost_rounds⟩)
    (c_lost_rounds : PySem.W.codeIn K cd_lost_rounds "lost_rounds" = true)
    (k_lost_rounds : PySem.W.keepIn K (.ref f_lost_rounds) = true)
    (a_play_game : PySem.W.nsIn K mainGlobals "play_game" = some (some (.ref f_play_game)))
    (l_play_game : K.lookup f_play_game = some ⟨oc_play_game, od_play_game, .func (PySem.W.fnOf "play_game" "play_game" (defArgs s_play_game) (defBody s_play_game) (defScope s_play_game) .none kV_play_game dc_play_game pm_play_game an_play_game cd_play_game ct_play_game), sl_play_game⟩)
    (c_play_game : PySem.W.codeIn K cd_play_game "play_game" = true)
    (k_play_game : PySem.W.keepIn K (.ref f_play_game) = true)
    (a_is_move : PySem.W.nsIn K mainGlobals "is_move" = some (some (.ref f_is_move)))
    (l_is_move : K.lookup f_is_move = some ⟨oc_is_move, od_is_move, .func (PySem.W.fnOf "is_move" "is_move" (defArgs s_is_move) (defBody s_is_move) (defScope s_is_move) .none kV_is_move dc_is_move pm_is_move an_is_move cd_is_move ct_is_move), sl_is_move⟩)
    (c_is_move : PySem.W.codeIn K cd_is_move "is_move" = true)
    (k_is_move : PySem.W.keepIn K (.ref f_is_move) = true)
    (a_shows_safe : PySem.W.nsIn K mainGlobals "shows_safe" = some (some (.ref f_shows_safe)))
    (l_shows_safe : K.lookup f_shows_safe = some ⟨oc_shows_safe, od_shows_safe, .func (PySem.W.fnOf "shows_safe" "shows_safe" (defArgs s_shows_safe) (defBody s_shows_safe) (defScope s_shows_safe) .none kV_shows_safe dc_shows_safe pm_shows_safe an_shows_safe cd_shows_safe ct_shows_safe), sl_shows_safe⟩)
    (c_shows_safe : PySem.W.codeIn K cd_shows_safe "shows_safe" = true)
    (k_shows_safe : PySem.W.keepIn K (.ref f_shows_safe) = true)
    (a_is_spoilt : PySem.W.nsIn K mainGlobals "is_spoilt" = some (some (.ref f_is_spoilt)))
    (l_is_spoilt : K.lookup f_is_spoilt = some ⟨oc_is_spoilt, od_is_spoilt, .func (PySem.W.fnOf "is_spoilt" "is_spoilt" (defArgs s_is_spoilt) (defBody s_is_spoilt) (defScope s_is_spoilt) .none kV_is_spoilt dc_is_spoilt pm_is_spoilt an_is_spoilt cd_is_spoilt ct_is_spoilt), sl_is_spoilt⟩)
    (c_is_spoilt : PySem.W.codeIn K cd_is_spoilt "is_spoilt" = true)
    (k_is_spoilt : PySem.W.keepIn K (.ref f_is_spoilt) = true)
    (a_shows_lost : PySem.W.nsIn K mainGlobals "shows_lost" = some (some (.ref f_shows_lost)))
    (l_shows_lost : K.lookup f_shows_lost = some ⟨oc_shows_lost, od_shows_lost, .func (PySem.W.fnOf "shows_lost" "shows_lost" (defArgs s_shows_lost) (defBody s_shows_lost) (defScope s_shows_lost) .none kV_shows_lost dc_shows_lost pm_shows_lost an_shows_lost cd_shows_lost ct_shows_lost), sl_shows_lost⟩)
    (c_shows_lost : PySem.W.codeIn K cd_shows_lost "shows_lost" = true)
    (k_shows_lost : PySem.W.keepIn K (.ref f_shows_lost) = true)
    (a_check_moves : PySem.W.nsIn K mainGlobals "check_moves" = some (some (.ref f_check_moves)))
    (l_check_moves : K.lookup f_check_moves = some ⟨oc_check_moves, od_check_moves, .func (PySem.W.fnOf "check_moves" "check_moves" (defArgs s_check_moves) (defBody s_check_moves) (defScope s_check_moves) .none kV_check_moves dc_check_moves pm_check_moves an_check_moves cd_check_moves ct_check_moves), sl_check_moves⟩)
    (c_check_moves : PySem.W.codeIn K cd_check_moves "check_moves" = true)
    (k_check_moves : PySem.W.keepIn K (.ref f_check_moves) = true)
    (a_driven_table : PySem.W.nsIn K mainGlobals "driven_table" = some (some (.ref f_driven_table)))
    (l_driven_table : K.lookup f_driven_table = some ⟨oc_driven_table, od_driven_table, .func (PySem.W.fnOf "driven_table" "driven_table" (defArgs s_driven_table) (defBody s_driven_table) (defScope s_driven_table) .none kV_driven_table dc_driven_table pm_driven_table an_driven_table cd_driven_table ct_driven_table), sl_driven_table⟩)
    (c_driven_table : PySem.W.codeIn K cd_driven_table "driven_table" = true)
    (k_driven_table : PySem.W.keepIn K (.ref f_driven_table) = true)
    (a_law_far : PySem.W.nsIn K mainGlobals "_law_far" = some (some (.ref f_law_far)))
    (l_law_far : K.lookup f_law_far = some ⟨oc_law_far, od_law_far, .func (PySem.W.fnOf "_law_far" "_law_far" (defArgs s_law_far) (defBody s_law_far) (defScope s_law_far) .none kV_law_far dc_law_far pm_law_far an_law_far cd_law_far ct_law_far), sl_law_far⟩)
    (c_law_far : PySem.W.codeIn K cd_law_far "_law_far" = true)
    (k_law_far : PySem.W.keepIn K (.ref f_law_far) = true)
    (a_law_parts : PySem.W.nsIn K mainGlobals "_law_parts" = some (some (.ref f_law_parts)))
    (l_law_parts : K.lookup f_law_parts = some ⟨oc_law_parts, od_law_parts, .func (PySem.W.fnOf "_law_parts" "_law_parts" (defArgs s_law_parts) (defBody s_law_parts) (defScope s_law_parts) .none kV_law_parts dc_law_parts pm_law_parts an_law_parts cd_law_parts ct_law_parts), sl_law_parts⟩)
    (c_law_parts : PySem.W.codeIn K cd_law_parts "_law_parts" = true)
    (k_law_parts : PySem.W.keepIn K (.ref f_law_parts) = true)
    (a_law_is_integer : PySem.W.nsIn K mainGlobals "_law_is_integer" = some (some (.ref f_law_is_integer)))
    (l_law_is_integer : K.lookup f_law_is_integer = some ⟨oc_law_is_integer, od_law_is_integer, .func (PySem.W.fnOf "_law_is_integer" "_law_is_integer" (defArgs s_law_is_integer) (defBody s_law_is_integer) (defScope s_law_is_integer) .none kV_law_is_integer dc_law_is_integer pm_law_is_integer an_law_is_integer cd_law_is_integer ct_law_is_integer), sl_law_is_integer⟩)
    (c_law_is_integer : PySem.W.codeIn K cd_law_is_integer "_law_is_integer" = true)
    (k_law_is_integer : PySem.W.keepIn K (.ref f_law_is_integer) = true)
    (a_law_drawn : PySem.W.nsIn K mainGlobals "_law_drawn" = some (some (.ref f_law_drawn)))
    (l_law_drawn : K.lookup f_law_drawn = some ⟨oc_law_drawn, od_law_drawn, .func (PySem.W.fnOf "_law_drawn" "_law_drawn" (defArgs s_law_drawn) (defBody s_law_drawn) (defScope s_law_drawn) .none kV_law_drawn dc_law_drawn pm_law_drawn an_law_drawn cd_law_drawn ct_law_drawn), sl_law_drawn⟩)
    (c_law_drawn : PySem.W.codeIn K cd_law_drawn "_law_drawn" = true)
    (k_law_drawn : PySem.W.keepIn K (.ref f_law_drawn) = true)
    (a_law_same_table : PySem.W.nsIn K mainGlobals "_law_same_table" = some (some (.ref f_law_same_table)))
    (l_law_same_table : K.lookup f_law_same_table = some ⟨oc_law_same_table, od_law_same_table, .func (PySem.W.fnOf "_law_same_table" "_law_same_table" (defArgs s_law_same_table) (defBody s_law_same_table) (defScope s_law_same_table) .none kV_law_same_table dc_law_same_table pm_law_same_table an_law_same_table cd_law_same_table ct_law_same_table), sl_law_same_table⟩)
    (c_law_same_table : PySem.W.codeIn K cd_law_same_table "_law_same_table" = true)
    (k_law_same_table : PySem.W.keepIn K (.ref f_law_same_table) = true)
    (a_law_chained : PySem.W.nsIn K mainGlobals "_law_chained" = some (some (.ref f_law_chained)))
    (l_law_chained : K.lookup f_law_chained = some ⟨oc_law_chained, od_law_chained, .func (PySem.W.fnOf "_law_chained" "_law_chained" (defArgs s_law_chained) (defBody s_law_chained) (defScope s_law_chained) .none kV_law_chained dc_law_chained pm_law_chained an_law_chained cd_law_chained ct_law_chained), sl_law_chained⟩)
    (c_law_chained : PySem.W.codeIn K cd_law_chained "_law_chained" = true)
    (k_law_chained : PySem.W.keepIn K (.ref f_law_chained) = true)
    (a_law_outcomes : PySem.W.nsIn K mainGlobals "_law_outcomes" = some (some (.ref f_law_outcomes)))
    (l_law_outcomes : K.lookup f_law_outcomes = some ⟨oc_law_outcomes, od_law_outcomes, .func (PySem.W.fnOf "_law_outcomes" "_law_outcomes" (defArgs s_law_outcomes) (defBody s_law_outcomes) (defScope s_law_outcomes) .none kV_law_outcomes dc_law_outcomes pm_law_outcomes an_law_outcomes cd_law_outcomes ct_law_outcomes), sl_law_outcomes⟩)
    (c_law_outcomes : PySem.W.codeIn K cd_law_outcomes "_law_outcomes" = true)
    (k_law_outcomes : PySem.W.keepIn K (.ref f_law_outcomes) = true)
    (a_law_rounds : PySem.W.nsIn K mainGlobals "_law_rounds" = some (some (.ref f_law_rounds)))
    (l_law_rounds : K.lookup f_law_rounds = some ⟨oc_law_rounds, od_law_rounds, .func (PySem.W.fnOf "_law_rounds" "_law_rounds" (defArgs s_law_rounds) (defBody s_law_rounds) (defScope s_law_rounds) .none kV_law_rounds dc_law_rounds pm_law_rounds an_law_rounds cd_law_rounds ct_law_rounds), sl_law_rounds⟩)
    (c_law_rounds : PySem.W.codeIn K cd_law_rounds "_law_rounds" = true)
    (k_law_rounds : PySem.W.keepIn K (.ref f_law_rounds) = true)
    (a_law_moves : PySem.W.nsIn K mainGlobals "_law_moves" = some (some (.ref f_law_moves)))
    (l_law_moves : K.lookup f_law_moves = some ⟨oc_law_moves, od_law_moves, .func (PySem.W.fnOf "_law_moves" "_law_moves" (defArgs s_law_moves) (defBody s_law_moves) (defScope s_law_moves) .none kV_law_moves dc_law_moves pm_law_moves an_law_moves cd_law_moves ct_law_moves), sl_law_moves⟩)
    (c_law_moves : PySem.W.codeIn K cd_law_moves "_law_moves" = true)
    (k_law_moves : PySem.W.keepIn K (.ref f_law_moves) = true)
    (a_law_usable : PySem.W.nsIn K mainGlobals "_law_usable" = some (some (.ref f_law_usable)))
    (l_law_usable : K.lookup f_law_usable = some ⟨oc_law_usable, od_law_usable, .func (PySem.W.fnOf "_law_usable" "_law_usable" (defArgs s_law_usable) (defBody s_law_usable) (defScope s_law_usable) .none kV_law_usable dc_law_usable pm_law_usable an_law_usable cd_law_usable ct_law_usable), sl_law_usable⟩)
    (c_law_usable : PySem.W.codeIn K cd_law_usable "_law_usable" = true)
    (k_law_usable : PySem.W.keepIn K (.ref f_law_usable) = true)
    (a_law_safe : PySem.W.nsIn K mainGlobals "_law_safe" = some (some (.ref f_law_safe)))
    (l_law_safe : K.lookup f_law_safe = some ⟨oc_law_safe, od_law_safe, .func (PySem.W.fnOf "_law_safe" "_law_safe" (defArgs s_law_safe) (defBody s_law_safe) (defScope s_law_safe) .none kV_law_safe dc_law_safe pm_law_safe an_law_safe cd_law_safe ct_law_safe), sl_law_safe⟩)
    (c_law_safe : PySem.W.codeIn K cd_law_safe "_law_safe" = true)
    (k_law_safe : PySem.W.keepIn K (.ref f_law_safe) = true)
    (a_law_lost : PySem.W.nsIn K mainGlobals "_law_lost" = some (some (.ref f_law_lost)))
    (l_law_lost : K.lookup f_law_lost = some ⟨oc_law_lost, od_law_lost, .func (PySem.W.fnOf "_law_lost" "_law_lost" (defArgs s_law_lost) (defBody s_law_lost) (defScope s_law_lost) .none kV_law_lost dc_law_lost pm_law_lost an_law_lost cd_law_lost ct_law_lost), sl_law_lost⟩)
    (c_law_lost : PySem.W.codeIn K cd_law_lost "_law_lost" = true)
    (k_law_lost : PySem.W.keepIn K (.ref f_law_lost) = true)
    (a_law_driven : PySem.W.nsIn K mainGlobals "_law_driven" = some (some (.ref f_law_driven)))
    (l_law_driven : K.lookup f_law_driven = some ⟨oc_law_driven, od_law_driven, .func (PySem.W.fnOf "_law_driven" "_law_driven" (defArgs s_law_driven) (defBody s_law_driven) (defScope s_law_driven) .none kV_law_driven dc_law_driven pm_law_driven an_law_driven cd_law_driven ct_law_driven), sl_law_driven⟩)
    (c_law_driven : PySem.W.codeIn K cd_law_driven "_law_driven" = true)
    (k_law_driven : PySem.W.keepIn K (.ref f_law_driven) = true)
    (a_law_changed : PySem.W.nsIn K mainGlobals "_law_changed" = some (some (.ref f_law_changed)))
    (l_law_changed : K.lookup f_law_changed = some ⟨oc_law_changed, od_law_changed, .func (PySem.W.fnOf "_law_changed" "_law_changed" (defArgs s_law_changed) (defBody s_law_changed) (defScope s_law_changed) .none kV_law_changed dc_law_changed pm_law_changed an_law_changed cd_law_changed ct_law_changed), sl_law_changed⟩)
    (c_law_changed : PySem.W.codeIn K cd_law_changed "_law_changed" = true)
    (k_law_changed : PySem.W.keepIn K (.ref f_law_changed) = true)
    (a_law_error : PySem.W.nsIn K mainGlobals "_law_error" = some (some (.ref f_law_error)))
    (l_law_error : K.lookup f_law_error = some ⟨oc_law_error, od_law_error, .func (PySem.W.fnOf "_law_error" "_law_error" (defArgs s_law_error) (defBody s_law_error) (defScope s_law_error) .none kV_law_error dc_law_error pm_law_error an_law_error cd_law_error ct_law_error), sl_law_error⟩)
    (c_law_error : PySem.W.codeIn K cd_law_error "_law_error" = true)
    (k_law_error : PySem.W.keepIn K (.ref f_law_error) = true)
    (a_law_same_told : PySem.W.nsIn K mainGlobals "_law_same_told" = some (some (.ref f_law_same_told)))
    (l_law_same_told : K.lookup f_law_same_told = some ⟨oc_law_same_told, od_law_same_told, .func (PySem.W.fnOf "_law_same_told" "_law_same_told" (defArgs s_law_same_told) (defBody s_law_same_told) (defScope s_law_same_told) .none kV_law_same_told dc_law_same_told pm_law_same_told an_law_same_told cd_law_same_told ct_law_same_told), sl_law_same_told⟩)
    (c_law_same_told : PySem.W.codeIn K cd_law_same_told "_law_same_told" = true)
    (k_law_same_told : PySem.W.keepIn K (.ref f_law_same_told) = true)
    (a_law_right_moves : PySem.W.nsIn K mainGlobals "_law_right_moves" = some (some (.ref f_law_right_moves)))
    (l_law_right_moves : K.lookup f_law_right_moves = some ⟨oc_law_right_moves, od_law_right_moves, .func (PySem.W.fnOf "_law_right_moves" "_law_right_moves" (defArgs s_law_right_moves) (defBody s_law_right_moves) (defScope s_law_right_moves) .none kV_law_right_moves dc_law_right_moves pm_law_right_moves an_law_right_moves cd_law_right_moves ct_law_right_moves), sl_law_right_moves⟩)
    (c_law_right_moves : PySem.W.codeIn K cd_law_right_moves "_law_right_moves" = true)
    (k_law_right_moves : PySem.W.keepIn K (.ref f_law_right_moves) = true)
    (a_law_right_rounds : PySem.W.nsIn K mainGlobals "_law_right_rounds" = some (some (.ref f_law_right_rounds)))
    (l_law_right_rounds : K.lookup f_law_right_rounds = some ⟨oc_law_right_rounds, od_law_right_rounds, .func (PySem.W.fnOf "_law_right_rounds" "_law_right_rounds" (defArgs s_law_right_rounds) (defBody s_law_right_rounds) (defScope s_law_right_rounds) .none kV_law_right_rounds dc_law_right_rounds pm_law_right_rounds an_law_right_rounds cd_law_right_rounds ct_law_right_rounds), sl_law_right_rounds⟩)
    (c_law_right_rounds : PySem.W.codeIn K cd_law_right_rounds "_law_right_rounds" = true)
    (k_law_right_rounds : PySem.W.keepIn K (.ref f_law_right_rounds) = true)
    (a_law : PySem.W.nsIn K mainGlobals "law" = some (some (.ref f_law)))
    (l_law : K.lookup f_law = some ⟨oc_law, od_law, .func (PySem.W.fnOf "law" "law" (defArgs s_law) (defBody s_law) (defScope s_law) .none kV_law dc_law pm_law an_law cd_law ct_law), sl_law⟩)
    (c_law : PySem.W.codeIn K cd_law "law" = true)
    (k_law : PySem.W.keepIn K (.ref f_law) = true)
    (n_all : PySem.W.nsIn K mainGlobals "all" = some none)
    (n_any : PySem.W.nsIn K mainGlobals "any" = some none)
    (n_bool : PySem.W.nsIn K mainGlobals "bool" = some none)
    (n_enumerate : PySem.W.nsIn K mainGlobals "enumerate" = some none)
    (n_int : PySem.W.nsIn K mainGlobals "int" = some none)
    (n_isinstance : PySem.W.nsIn K mainGlobals "isinstance" = some none)
    (n_len : PySem.W.nsIn K mainGlobals "len" = some none)
    (n_list : PySem.W.nsIn K mainGlobals "list" = some none)
    (n_range : PySem.W.nsIn K mainGlobals "range" = some none)
    (n_str : PySem.W.nsIn K mainGlobals "str" = some none)
    (n_tuple : PySem.W.nsIn K mainGlobals "tuple" = some none)
    (z_ROWS : PySem.W.nsIn K mainGlobals "ROWS" = some (some (.int (2) t_ROWS)))
    (g_0 : PySem.W.nsIn K mainGlobals "NoSuchThing" = some (some (.ref C0)))
    (g_1 : PySem.W.nsIn K mainGlobals "InvalidValues" = some (some (.ref C1)))
    (g_2 : PySem.W.nsIn K mainGlobals "GatesError" = some (some (.ref C2)))
    (ec_0_0 : PySem.W.findIn K (.ref C0) "__getattribute__" = some (some (.builtin "BaseException.__getattribute__")))
    (ec_0_1 : PySem.W.findIn K (.ref C0) "__getattr__" = some none)
    (ec_0_2 : PySem.W.subIn K (.ref C0) (.type "BaseException") = some true)
    (ec_0_3 : PySem.W.hasDictIn K C0 = true)
    (ec_0_4 : PySem.W.findIn K (.ref C0) "__class__" = some (some (.builtin "object.__class__")))
    (ec_0_5 : PySem.W.specialIn K (.builtin "object.__class__") "__get__" = some (some (.builtin "getset_descriptor.__get__")))
    (ec_0_6 : PySem.W.takesIn K (.builtin "object.__class__") = some true)
    (ec_0_7 : PySem.W.mroIn K C0 (.type "object") = some true)
    (ex_0 : PySem.W.exmOne K (.ref C0) (.ref C2) = some true)
    (kit_0_0 : PySem.W.kitOne K (.ref C0) (.ref C0) = some true)
    (kit_0_1 : PySem.W.kitOne K (.ref C0) (.ref C1) = some false)
    (ec_1_0 : PySem.W.findIn K (.ref C1) "__getattribute__" = some (some (.builtin "BaseException.__getattribute__")))
    (ec_1_1 : PySem.W.findIn K (.ref C1) "__getattr__" = some none)
    (ec_1_2 : PySem.W.subIn K (.ref C1) (.type "BaseException") = some true)
    (ec_1_3 : PySem.W.hasDictIn K C1 = true)
    (ec_1_4 : PySem.W.findIn K (.ref C1) "__class__" = some (some (.builtin "object.__class__")))
    (ec_1_5 : PySem.W.specialIn K (.builtin "object.__class__") "__get__" = some (some (.builtin "getset_descriptor.__get__")))
    (ec_1_6 : PySem.W.takesIn K (.builtin "object.__class__") = some true)
    (ec_1_7 : PySem.W.mroIn K C1 (.type "object") = some true)
    (ex_1 : PySem.W.exmOne K (.ref C1) (.ref C2) = some true)
    (kit_1_0 : PySem.W.kitOne K (.ref C1) (.ref C0) = some false)
    (kit_1_1 : PySem.W.kitOne K (.ref C1) (.ref C1) = some true)
    (x_0 : PySem.W.excIn K C0 [.type "ValueError", .type "Exception", .type "BaseException", .type "object"] "ValueError.__new__" = true)
    (k_0 : PySem.W.keepIn K (.ref C0) = true)
    (b_0 : PySem.W.subIn K (.ref C0) (.type "BaseException") = some true)
    (t_0 : PySem.W.typeIn K (.ref C0) = some (.type "type"))
    (x_1 : PySem.W.excIn K C1 [.type "ValueError", .type "Exception", .type "BaseException", .type "object"] "ValueError.__new__" = true)
    (k_1 : PySem.W.keepIn K (.ref C1) = true)
    (b_1 : PySem.W.subIn K (.ref C1) (.type "BaseException") = some true)
    (t_1 : PySem.W.typeIn K (.ref C1) = some (.type "type"))
    : ∃ fd : FuncData, (∀ (s : Shared) (v : Value), BindsTo s fd ⟨[v], []⟩ [("script", v)]) ∧ ∀ base : Heap, K.In base → base.Ns mainGlobals mg → FnOk P w K mg base (L2.CX P w) 7 fa fd ["script"] (spLaw K) := by
  have e := hfa.symm.trans (PySem.W.mg_of X G a_law)
  cases e
  have T : Txt K mg (fun k => ([C0, C1, C2] : List Addr).getD k 0) := { n_all := PySem.W.mg_none_of X G n_all, n_any := PySem.W.mg_none_of X G n_any, n_bool := PySem.W.mg_none_of X G n_bool, n_enumerate := PySem.W.mg_none_of X G n_enumerate, n_int := PySem.W.mg_none_of X G n_int, n_isinstance := PySem.W.mg_none_of X G n_isinstance, n_len := PySem.W.mg_none_of X G n_len, n_list := PySem.W.mg_none_of X G n_list, n_range := PySem.W.mg_none_of X G n_range, n_str := PySem.W.mg_none_of X G n_str, n_tuple := PySem.W.mg_none_of X G n_tuple, c_ROWS := ⟨t_ROWS, PySem.W.mg_of X G z_ROWS⟩, g_0 := PySem.W.mg_of X G g_0, g_1 := PySem.W.mg_of X G g_1, g_2 := PySem.W.mg_of X G g_2, ec_0 := ⟨ec_0_0, ec_0_1, ec_0_2, ec_0_3, ec_0_4, ec_0_5, ec_0_6, ec_0_7⟩, ex_0 := ex_0, kit_0_0 := kit_0_0, kit_0_1 := kit_0_1, ec_1 := ⟨ec_1_0, ec_1_1, ec_1_2, ec_1_3, ec_1_4, ec_1_5, ec_1_6, ec_1_7⟩, ex_1 := ex_1, kit_1_0 := kit_1_0, kit_1_1 := kit_1_1, x_0 := x_0, k_0 := k_0, b_0 := b_0, t_0 := t_0, x_1 := x_1, k_1 := k_1, b_1 := b_1, t_1 := t_1 }
  refine ⟨PySem.W.fnOf "law" "law" (defArgs s_law) (defBody s_law) (defScope s_law) .none kV_law dc_law pm_law an_law cd_law ct_law, fun s v => .of_eq rfl, fun base _ _ => ?_⟩
  have F_law_parts := fun_mk (st := s_law_parts) l_law_parts c_law_parts k_law_parts
  have O_law_parts := ok_law_parts (P := P) (w := w) (base := base) F_law_parts T 
  have C_law_parts : Cal P w K mg base "_law_parts" 1 ["cell", "sizes"] _ := ⟨_, _, O_law_parts, PySem.W.mg_of X G a_law_parts, k_law_parts, F_law_parts.binds (ps := ["cell", "sizes"]) fun _ _ _ _ _ _ us hl => match us, hl with | [_, _], _ => rfl⟩
  have F_law_far := fun_mk (st := s_law_far) l_law_far c_law_far k_law_far
  have O_law_far := ok_law_far (P := P) (w := w) (base := base) F_law_far T 
  have C_law_far : Cal P w K mg base "_law_far" 1 ["script", "k"] _ := ⟨_, _, O_law_far, PySem.W.mg_of X G a_law_far, k_law_far, F_law_far.binds (ps := ["script", "k"]) fun _ _ _ _ _ _ us hl => match us, hl with | [_, _], _ => rfl⟩
  have F_law_drawn := fun_mk (st := s_law_drawn) l_law_drawn c_law_drawn k_law_drawn
  have O_law_drawn := ok_law_drawn (P := P) (w := w) (base := base) F_law_drawn T C_law_parts C_law_far
  have C_law_drawn : Cal P w K mg base "_law_drawn" 2 ["script", "at", "inputs", "outputs", "states"] _ := ⟨_, _, O_law_drawn, PySem.W.mg_of X G a_law_drawn, k_law_drawn, F_law_drawn.binds (ps := ["script", "at", "inputs", "outputs", "states"]) fun _ _ _ _ _ _ us hl => match us, hl with | [_, _, _, _, _], _ => rfl⟩
  have F_law_outcomes := fun_mk (st := s_law_outcomes) l_law_outcomes c_law_outcomes k_law_outcomes
  have O_law_outcomes := ok_law_outcomes (P := P) (w := w) (base := base) F_law_outcomes T 
  have C_law_outcomes : Cal P w K mg base "_law_outcomes" 1 ["table", "drivers", "state", "move"] _ := ⟨_, _, O_law_outcomes, PySem.W.mg_of X G a_law_outcomes, k_law_outcomes, F_law_outcomes.binds (ps := ["table", "drivers", "state", "move"]) fun _ _ _ _ _ _ us hl => match us, hl with | [_, _, _, _], _ => rfl⟩
  have F_law_rounds := fun_mk (st := s_law_rounds) l_law_rounds c_law_rounds k_law_rounds
  have O_law_rounds := ok_law_rounds (P := P) (w := w) (base := base) F_law_rounds T C_law_outcomes
  have C_law_rounds : Cal P w K mg base "_law_rounds" 2 ["table", "drivers", "bad"] _ := ⟨_, _, O_law_rounds, PySem.W.mg_of X G a_law_rounds, k_law_rounds, F_law_rounds.binds (ps := ["table", "drivers", "bad"]) fun _ _ _ _ _ _ us hl => match us, hl with | [_, _, _], _ => rfl⟩
  have F_law_moves := fun_mk (st := s_law_moves) l_law_moves c_law_moves k_law_moves
  have O_law_moves := ok_law_moves (P := P) (w := w) (base := base) F_law_moves T C_law_outcomes
  have C_law_moves : Cal P w K mg base "_law_moves" 2 ["table", "drivers", "bad", "rounds"] _ := ⟨_, _, O_law_moves, PySem.W.mg_of X G a_law_moves, k_law_moves, F_law_moves.binds (ps := ["table", "drivers", "bad", "rounds"]) fun _ _ _ _ _ _ us hl => match us, hl with | [_, _, _, _], _ => rfl⟩
  have F_check_driver := fun_mk (st := s_check_driver) l_check_driver c_check_driver k_check_driver
  have O_check_driver := ok_check_driver (P := P) (w := w) (base := base) F_check_driver T 
  have C_check_driver : Cal P w K mg base "check_driver" 1 ["table", "driver_count"] _ := ⟨_, _, O_check_driver, PySem.W.mg_of X G a_check_driver, k_check_driver, F_check_driver.binds (ps := ["table", "driver_count"]) fun _ _ _ _ _ _ us hl => match us, hl with | [_, _], _ => rfl⟩
  have F_state_count := fun_mk (st := s_state_count) l_state_count c_state_count k_state_count
  have O_state_count := ok_state_count (P := P) (w := w) (base := base) F_state_count T 
  have C_state_count : Cal P w K mg base "state_count" 1 ["table"] _ := ⟨_, _, O_state_count, PySem.W.mg_of X G a_state_count, k_state_count, F_state_count.binds (ps := ["table"]) fun _ _ _ _ _ _ us hl => match us, hl with | [_], _ => rfl⟩
  have F_holds := fun_mk (st := s_holds) l_holds c_holds k_holds
  have O_holds := ok_holds (P := P) (w := w) (base := base) F_holds T 
  have C_holds : Cal P w K mg base "holds" 1 ["pairs", "bad", "rounds"] _ := ⟨_, _, O_holds, PySem.W.mg_of X G a_holds, k_holds, F_holds.binds (ps := ["pairs", "bad", "rounds"]) fun _ _ _ _ _ _ us hl => match us, hl with | [_, _, _], _ => rfl⟩
  have F_outcomes := fun_mk (st := s_outcomes) l_outcomes c_outcomes k_outcomes
  have O_outcomes := ok_outcomes (P := P) (w := w) (base := base) F_outcomes T 
  have C_outcomes : Cal P w K mg base "outcomes" 1 ["table", "driver_count", "state", "move"] _ := ⟨_, _, O_outcomes, PySem.W.mg_of X G a_outcomes, k_outcomes, F_outcomes.binds (ps := ["table", "driver_count", "state", "move"]) fun _ _ _ _ _ _ us hl => match us, hl with | [_, _, _, _], _ => rfl⟩
  have F_good_moves := fun_mk (st := s_good_moves) l_good_moves c_good_moves k_good_moves
  have O_good_moves := ok_good_moves (P := P) (w := w) (base := base) F_good_moves T C_holds C_outcomes
  have C_good_moves : Cal P w K mg base "good_moves" 2 ["table", "driver_count", "bad", "rounds", "state"] _ := ⟨_, _, O_good_moves, PySem.W.mg_of X G a_good_moves, k_good_moves, F_good_moves.binds (ps := ["table", "driver_count", "bad", "rounds", "state"]) fun _ _ _ _ _ _ us hl => match us, hl with | [_, _, _, _, _], _ => rfl⟩
  have F_lost_rounds := fun_mk (st := s_lost_rounds) l_lost_rounds c_lost_rounds k_lost_rounds
  have O_lost_rounds := ok_lost_rounds (P := P) (w := w) (base := base) F_lost_rounds T C_state_count C_good_moves
  have C_lost_rounds : Cal P w K mg base "lost_rounds" 3 ["table", "driver_count", "bad"] _ := ⟨_, _, O_lost_rounds, PySem.W.mg_of X G a_lost_rounds, k_lost_rounds, F_lost_rounds.binds (ps := ["table", "driver_count", "bad"]) fun _ _ _ _ _ _ us hl => match us, hl with | [_, _, _], _ => rfl⟩
  have F_play_game := fun_mk (st := s_play_game) l_play_game c_play_game k_play_game
  have O_play_game := ok_play_game (P := P) (w := w) (base := base) F_play_game T C_check_driver C_lost_rounds C_good_moves
  have C_play_game : Cal P w K mg base "play_game" 4 ["table", "driver_count", "bad"] _ := ⟨_, _, O_play_game, PySem.W.mg_of X G a_play_game, k_play_game, F_play_game.binds (ps := ["table", "driver_count", "bad"]) fun _ _ _ _ _ _ us hl => match us, hl with | [_, _, _], _ => rfl⟩
  have F_law_is_integer := fun_mk (st := s_law_is_integer) l_law_is_integer c_law_is_integer k_law_is_integer
  have O_law_is_integer := ok_law_is_integer (P := P) (w := w) (base := base) F_law_is_integer T 
  have C_law_is_integer : Cal P w K mg base "_law_is_integer" 1 ["actual"] _ := ⟨_, _, O_law_is_integer, PySem.W.mg_of X G a_law_is_integer, k_law_is_integer, F_law_is_integer.binds (ps := ["actual"]) fun _ _ _ _ _ _ us hl => match us, hl with | [_], _ => rfl⟩
  have F_law_same_told := fun_mk (st := s_law_same_told) l_law_same_told c_law_same_told k_law_same_told
  have O_law_same_told := ok_law_same_told (P := P) (w := w) (base := base) F_law_same_told T C_law_is_integer
  have C_law_same_told : Cal P w K mg base "_law_same_told" 2 ["actual", "kind", "expected"] _ := ⟨_, _, O_law_same_told, PySem.W.mg_of X G a_law_same_told, k_law_same_told, F_law_same_told.binds (ps := ["actual", "kind", "expected"]) fun _ _ _ _ _ _ us hl => match us, hl with | [_, _, _], _ => rfl⟩
  have F_law_usable := fun_mk (st := s_law_usable) l_law_usable c_law_usable k_law_usable
  have O_law_usable := ok_law_usable (P := P) (w := w) (base := base) F_law_usable T C_law_outcomes
  have C_law_usable : Cal P w K mg base "_law_usable" 2 ["table", "drivers", "moves"] _ := ⟨_, _, O_law_usable, PySem.W.mg_of X G a_law_usable, k_law_usable, F_law_usable.binds (ps := ["table", "drivers", "moves"]) fun _ _ _ _ _ _ us hl => match us, hl with | [_, _, _], _ => rfl⟩
  have F_law_safe := fun_mk (st := s_law_safe) l_law_safe c_law_safe k_law_safe
  have O_law_safe := ok_law_safe (P := P) (w := w) (base := base) F_law_safe T C_law_usable C_law_outcomes
  have C_law_safe : Cal P w K mg base "_law_safe" 3 ["table", "drivers", "bad", "moves"] _ := ⟨_, _, O_law_safe, PySem.W.mg_of X G a_law_safe, k_law_safe, F_law_safe.binds (ps := ["table", "drivers", "bad", "moves"]) fun _ _ _ _ _ _ us hl => match us, hl with | [_, _, _, _], _ => rfl⟩
  have F_law_lost := fun_mk (st := s_law_lost) l_law_lost c_law_lost k_law_lost
  have O_law_lost := ok_law_lost (P := P) (w := w) (base := base) F_law_lost T C_law_outcomes
  have C_law_lost : Cal P w K mg base "_law_lost" 2 ["table", "drivers", "bad", "rounds"] _ := ⟨_, _, O_law_lost, PySem.W.mg_of X G a_law_lost, k_law_lost, F_law_lost.binds (ps := ["table", "drivers", "bad", "rounds"]) fun _ _ _ _ _ _ us hl => match us, hl with | [_, _, _, _], _ => rfl⟩
  have F_law_changed := fun_mk (st := s_law_changed) l_law_changed c_law_changed k_law_changed
  have O_law_changed := ok_law_changed (P := P) (w := w) (base := base) F_law_changed T 
  have C_law_changed : Cal P w K mg base "_law_changed" 1 ["numbers", "which", "place", "one"] _ := ⟨_, _, O_law_changed, PySem.W.mg_of X G a_law_changed, k_law_changed, F_law_changed.binds (ps := ["numbers", "which", "place", "one"]) fun _ _ _ _ _ _ us hl => match us, hl with | [_, _, _, _], _ => rfl⟩
  have F_is_move := fun_mk (st := s_is_move) l_is_move c_is_move k_is_move
  have O_is_move := ok_is_move (P := P) (w := w) (base := base) F_is_move T 
  have C_is_move : Cal P w K mg base "is_move" 1 ["driver_count", "move"] _ := ⟨_, _, O_is_move, PySem.W.mg_of X G a_is_move, k_is_move, F_is_move.binds (ps := ["driver_count", "move"]) fun _ _ _ _ _ _ us hl => match us, hl with | [_, _], _ => rfl⟩
  have F_shows_safe := fun_mk (st := s_shows_safe) l_shows_safe c_shows_safe k_shows_safe
  have O_shows_safe := ok_shows_safe (P := P) (w := w) (base := base) F_shows_safe T C_check_driver C_state_count C_is_move C_outcomes
  have C_shows_safe : Cal P w K mg base "shows_safe" 2 ["table", "driver_count", "bad", "moves"] _ := ⟨_, _, O_shows_safe, PySem.W.mg_of X G a_shows_safe, k_shows_safe, F_shows_safe.binds (ps := ["table", "driver_count", "bad", "moves"]) fun _ _ _ _ _ _ us hl => match us, hl with | [_, _, _, _], _ => rfl⟩
  have F_is_spoilt := fun_mk (st := s_is_spoilt) l_is_spoilt c_is_spoilt k_is_spoilt
  have O_is_spoilt := ok_is_spoilt (P := P) (w := w) (base := base) F_is_spoilt T 
  have C_is_spoilt : Cal P w K mg base "is_spoilt" 1 ["pairs", "bad", "rounds", "number"] _ := ⟨_, _, O_is_spoilt, PySem.W.mg_of X G a_is_spoilt, k_is_spoilt, F_is_spoilt.binds (ps := ["pairs", "bad", "rounds", "number"]) fun _ _ _ _ _ _ us hl => match us, hl with | [_, _, _, _], _ => rfl⟩
  have F_shows_lost := fun_mk (st := s_shows_lost) l_shows_lost c_shows_lost k_shows_lost
  have O_shows_lost := ok_shows_lost (P := P) (w := w) (base := base) F_shows_lost T C_check_driver C_state_count C_is_spoilt C_outcomes
  have C_shows_lost : Cal P w K mg base "shows_lost" 2 ["table", "driver_count", "bad", "rounds"] _ := ⟨_, _, O_shows_lost, PySem.W.mg_of X G a_shows_lost, k_shows_lost, F_shows_lost.binds (ps := ["table", "driver_count", "bad", "rounds"]) fun _ _ _ _ _ _ us hl => match us, hl with | [_, _, _, _], _ => rfl⟩
  have F_check_moves := fun_mk (st := s_check_moves) l_check_moves c_check_moves k_check_moves
  have O_check_moves := ok_check_moves (P := P) (w := w) (base := base) F_check_moves T C_state_count C_is_move C_outcomes
  have C_check_moves : Cal P w K mg base "check_moves" 2 ["table", "driver_count", "moves"] _ := ⟨_, _, O_check_moves, PySem.W.mg_of X G a_check_moves, k_check_moves, F_check_moves.binds (ps := ["table", "driver_count", "moves"]) fun _ _ _ _ _ _ us hl => match us, hl with | [_, _, _], _ => rfl⟩
  have F_driven_table := fun_mk (st := s_driven_table) l_driven_table c_driven_table k_driven_table
  have O_driven_table := ok_driven_table (P := P) (w := w) (base := base) F_driven_table T C_check_driver C_check_moves C_outcomes
  have C_driven_table : Cal P w K mg base "driven_table" 3 ["table", "driver_count", "moves"] _ := ⟨_, _, O_driven_table, PySem.W.mg_of X G a_driven_table, k_driven_table, F_driven_table.binds (ps := ["table", "driver_count", "moves"]) fun _ _ _ _ _ _ us hl => match us, hl with | [_, _, _], _ => rfl⟩
  have F_law_error := fun_mk (st := s_law_error) l_law_error c_law_error k_law_error
  have O_law_error := ok_law_error (P := P) (w := w) (base := base) F_law_error T C_play_game C_shows_safe C_shows_lost C_driven_table
  have C_law_error : Cal P w K mg base "_law_error" 5 ["which", "table", "drivers", "bad", "items"] _ := ⟨_, _, O_law_error, PySem.W.mg_of X G a_law_error, k_law_error, F_law_error.binds (ps := ["which", "table", "drivers", "bad", "items"]) fun _ _ _ _ _ _ us hl => match us, hl with | [_, _, _, _, _], _ => rfl⟩
  have F_law_same_table := fun_mk (st := s_law_same_table) l_law_same_table c_law_same_table k_law_same_table
  have O_law_same_table := ok_law_same_table (P := P) (w := w) (base := base) F_law_same_table T C_law_is_integer
  have C_law_same_table : Cal P w K mg base "_law_same_table" 2 ["actual", "expected"] _ := ⟨_, _, O_law_same_table, PySem.W.mg_of X G a_law_same_table, k_law_same_table, F_law_same_table.binds (ps := ["actual", "expected"]) fun _ _ _ _ _ _ us hl => match us, hl with | [_, _], _ => rfl⟩
  have F_law_driven := fun_mk (st := s_law_driven) l_law_driven c_law_driven k_law_driven
  have O_law_driven := ok_law_driven (P := P) (w := w) (base := base) F_law_driven T C_law_outcomes
  have C_law_driven : Cal P w K mg base "_law_driven" 2 ["table", "drivers", "moves"] _ := ⟨_, _, O_law_driven, PySem.W.mg_of X G a_law_driven, k_law_driven, F_law_driven.binds (ps := ["table", "drivers", "moves"]) fun _ _ _ _ _ _ us hl => match us, hl with | [_, _, _], _ => rfl⟩
  have F_law_right_moves := fun_mk (st := s_law_right_moves) l_law_right_moves c_law_right_moves k_law_right_moves
  have O_law_right_moves := ok_law_right_moves (P := P) (w := w) (base := base) F_law_right_moves T C_shows_safe C_law_safe C_law_usable C_law_error C_law_same_table C_driven_table C_law_driven
  have C_law_right_moves : Cal P w K mg base "_law_right_moves" 6 ["table", "drivers", "bad", "moves", "lost"] _ := ⟨_, _, O_law_right_moves, PySem.W.mg_of X G a_law_right_moves, k_law_right_moves, F_law_right_moves.binds (ps := ["table", "drivers", "bad", "moves", "lost"]) fun _ _ _ _ _ _ us hl => match us, hl with | [_, _, _, _, _], _ => rfl⟩
  have F_law_right_rounds := fun_mk (st := s_law_right_rounds) l_law_right_rounds c_law_right_rounds k_law_right_rounds
  have O_law_right_rounds := ok_law_right_rounds (P := P) (w := w) (base := base) F_law_right_rounds T C_shows_lost C_law_lost
  have C_law_right_rounds : Cal P w K mg base "_law_right_rounds" 3 ["table", "drivers", "bad", "rounds", "lost"] _ := ⟨_, _, O_law_right_rounds, PySem.W.mg_of X G a_law_right_rounds, k_law_right_rounds, F_law_right_rounds.binds (ps := ["table", "drivers", "bad", "rounds", "lost"]) fun _ _ _ _ _ _ us hl => match us, hl with | [_, _, _, _, _], _ => rfl⟩
  have F_law_chained := fun_mk (st := s_law_chained) l_law_chained c_law_chained k_law_chained
  have O_law_chained := ok_law_chained (P := P) (w := w) (base := base) F_law_chained T C_law_parts
  have C_law_chained : Cal P w K mg base "_law_chained" 2 ["table", "drivers", "cell"] _ := ⟨_, _, O_law_chained, PySem.W.mg_of X G a_law_chained, k_law_chained, F_law_chained.binds (ps := ["table", "drivers", "cell"]) fun _ _ _ _ _ _ us hl => match us, hl with | [_, _, _], _ => rfl⟩
  have F_law := fun_mk (st := s_law) l_law c_law k_law
  have O_law := ok_law (P := P) (w := w) (base := base) F_law T C_law_parts C_law_far C_law_drawn C_law_rounds C_law_moves C_play_game C_law_same_told C_law_safe C_law_lost C_law_changed C_law_right_moves C_law_right_rounds C_law_error C_law_chained
  exact O_law.imp spLaw_imp
theorem walk {l : PySem.W.OpenLaw} {q : Program} {loose : List Str} {XP : (Str → Option Value) → Heap → Prop} {YP : World → Heap → Prop} {d : DefRec} {K : Params → PySem.W.Frag} (hn : l.most = some 63) (hdf : d.params.defaults = [])
    (hY : ∀ (w : World) (h : Heap), YP w h → (K w.params).In h)
    (F : ∀ (w : World) (mg : Str → Option Value) (fa : Addr) (h : Heap), (K w.params).In h → h.Ns mainGlobals mg → mg d.name = some (.ref fa) →
      ∃ fd : FuncData, (∀ (s : Shared) (u : Value), BindsTo s fd ⟨[u], []⟩ [("script", u)]) ∧ ∀ base : Heap, (K w.params).In base → base.Ns mainGlobals mg → FnOk l.prog w (K w.params) mg base (L2.CX l.prog w) 7 fa fd ["script"] (spLaw (K w.params))) :
    PySem.W.WalkO q loose XP YP l.row.toRowW d [] (fun f vs => PySem.call f vs) :=
  L2.walk_of (n := 63) (k := 7) (x := "script") (CX := fun w => L2.CX l.prog w) (sp := fun w => spLaw (K w.params)) hn (by decide) hdf ⟨rfl, by decide, by decide⟩ hY F (fun _ _ a ns hl _ hS => ⟨a, ns, rfl, hS, hl, fun _ => rfl⟩) fun _ _ _ _ _ ⟨_, _, _, _, _, _, _, _, _, _, _, _, z⟩ => z
end G94
open PySem PySem.W PyProof.Rows in
set_option maxRecDepth 100000 in
set_option maxHeartbeats 0 in
theorem PySem.Challenge.cw_pinsalone_k94_games_holds : PySem.Challenge.rw_pinsalone_k94_games.Holds := by
  w_on; o_law; k_head; (case hw => w_witness2)
  k_fill
  refine G94.walk (l := PySem.Challenge.rw_pinsalone_k94_games) rfl rfl (fun w h Y => PySem.W.kIn_of Y) ?F
  case F =>
    intro w mg fa h KX G hmg
    refine' G94.all_mk KX G hmg ?a_state_count ?l_state_count ?c_state_count ?k_state_count ?a_check_driver ?l_check_driver ?c_check_driver ?k_check_driver ?a_outcomes ?l_outcomes ?c_outcomes ?k_outcomes ?a_holds ?l_holds ?c_holds ?k_holds ?a_good_moves ?l_good_moves ?c_good_moves ?k_good_moves ?a_lost_rounds ?l_lost_rounds ?c_lost_rounds ?k_lost_rounds ?a_play_game ?l_play_game ?c_play_game ?k_play_game ?a_is_move ?l_is_move ?c_is_move ?k_is_move ?a_shows_safe ?l_shows_safe ?c_shows_safe ?k_shows_safe ?a_is_spoilt ?l_is_spoilt ?c_is_spoilt ?k_is_spoilt ?a_shows_lost ?l_shows_lost ?c_shows_lost ?k_shows_lost ?a_check_moves ?l_check_moves ?c_check_moves ?k_check_moves ?a_driven_table ?l_driven_table ?c_driven_table ?k_driven_table ?a_law_far ?l_law_far ?c_law_far ?k_law_far ?a_law_parts ?l_law_parts ?c_law_parts ?k_law_parts ?a_law_is_integer ?l_law_is_integer ?c_law_is_integer ?k_law_is_integer ?a_law_drawn ?l_law_drawn ?c_law_drawn ?k_law_drawn ?a_law_same_table ?l_law_same_table ?c_law_same_table ?k_law_same_table ?a_law_chained ?l_law_chained ?c_law_chained ?k_law_chained ?a_law_outcomes ?l_law_outcomes ?c_law_outcomes ?k_law_outcomes ?a_law_rounds ?l_law_rounds ?c_law_rounds ?k_law_rounds ?a_law_moves ?l_law_moves ?c_law_moves ?k_law_moves ?a_law_usable ?l_law_usable ?c_law_usable ?k_law_usable ?a_law_safe ?l_law_safe ?c_law_safe ?k_law_safe ?a_law_lost ?l_law_lost ?c_law_lost ?k_law_lost ?a_law_driven ?l_law_driven ?c_law_driven ?k_law_driven ?a_law_changed ?l_law_changed ?c_law_changed ?k_law_changed ?a_law_error ?l_law_error ?c_law_error ?k_law_error ?a_law_same_told ?l_law_same_told ?c_law_same_told ?k_law_same_told ?a_law_right_moves ?l_law_right_moves ?c_law_right_moves ?k_law_right_moves ?a_law_right_rounds ?l_law_right_rounds ?c_law_right_rounds ?k_law_right_rounds ?a_law ?l_law ?c_law ?k_law ?n_all ?n_any ?n_bool ?n_enumerate ?n_int ?n_isinstance ?n_len ?n_list ?n_range ?n_str ?n_tuple ?z_ROWS ?g_0 ?g_1 ?g_2 ?ec_0_0 ?ec_0_1 ?ec_0_2 ?ec_0_3 ?ec_0_4 ?ec_0_5 ?ec_0_6 ?ec_0_7 ?ex_0 ?kit_0_0 ?kit_0_1 ?ec_1_0 ?ec_1_1 ?ec_1_2 ?ec_1_3 ?ec_1_4 ?ec_1_5 ?ec_1_6 ?ec_1_7 ?ex_1 ?kit_1_0 ?kit_1_1 ?x_0 ?k_0 ?b_0 ?t_0 ?x_1 ?k_1 ?b_1 ?t_1
    (case a_state_count => k_is)
    (case l_state_count => k_is)
    (case c_state_count => k_is)
    (case k_state_count => k_is)
    (case a_check_driver => k_is)
    (case l_check_driver => k_is)
    (case c_check_driver => k_is)
    (case k_check_driver => k_is)
    (case a_outcomes => k_is)
    (case l_outcomes => k_is)
    (case c_outcomes => k_is)
    (case k_outcomes => k_is)
    (case a_holds => k_is)
    (case l_holds => k_is)
    (case c_holds => k_is)
    (case k_holds => k_is)
    (case a_good_moves => k_is)
    (case l_good_moves => k_is)
    (case c_good_moves => k_is)
    (case k_good_moves => k_is)
    (case a_lost_rounds => k_is)
    (case l_lost_rounds => k_is)
    (case c_lost_rounds => k_is)
    (case k_lost_rounds => k_is)
    (case a_play_game => k_is)
    (case l_play_game => k_is)
    (case c_play_game => k_is)
    (case k_play_game => k_is)
    (case a_is_move => k_is)
    (case l_is_move => k_is)
    (case c_is_move => k_is)
    (case k_is_move => k_is)
    (case a_shows_safe => k_is)
    (case l_shows_safe => k_is)
    (case c_shows_safe => k_is)
    (case k_shows_safe => k_is)
    (case a_is_spoilt => k_is)
    (case l_is_spoilt => k_is)
    (case c_is_spoilt => k_is)
    (case k_is_spoilt => k_is)
    (case a_shows_lost => k_is)
    (case l_shows_lost => k_is)
    (case c_shows_lost => k_is)
    (case k_shows_lost => k_is)
    (case a_check_moves => k_is)
    (case l_check_moves => k_is)
    (case c_check_moves => k_is)
    (case k_check_moves => k_is)
    (case a_driven_table => k_is)
    (case l_driven_table => k_is)
    (case c_driven_table => k_is)
    (case k_driven_table => k_is)
    (case a_law_far => k_is)
    (case l_law_far => k_is)
    (case c_law_far => k_is)
    (case k_law_far => k_is)
    (case a_law_parts => k_is)
    (case l_law_parts => k_is)
    (case c_law_parts => k_is)
    (case k_law_parts => k_is)
    (case a_law_is_integer => k_is)
    (case l_law_is_integer => k_is)
    (case c_law_is_integer => k_is)
    (case k_law_is_integer => k_is)
    (case a_law_drawn => k_is)
    (case l_law_drawn => k_is)
    (case c_law_drawn => k_is)
    (case k_law_drawn => k_is)
    (case a_law_same_table => k_is)
    (case l_law_same_table => k_is)
    (case c_law_same_table => k_is)
    (case k_law_same_table => k_is)
    (case a_law_chained => k_is)
    (case l_law_chained => k_is)
    (case c_law_chained => k_is)
    (case k_law_chained => k_is)
    (case a_law_outcomes => k_is)
    (case l_law_outcomes => k_is)
    (case c_law_outcomes => k_is)
    (case k_law_outcomes => k_is)
    (case a_law_rounds => k_is)
    (case l_law_rounds => k_is)
    (case c_law_rounds => k_is)
    (case k_law_rounds => k_is)
    (case a_law_moves => k_is)
    (case l_law_moves => k_is)
    (case c_law_moves => k_is)
    (case k_law_moves => k_is)
    (case a_law_usable => k_is)
    (case l_law_usable => k_is)
    (case c_law_usable => k_is)
    (case k_law_usable => k_is)
    (case a_law_safe => k_is)
    (case l_law_safe => k_is)
    (case c_law_safe => k_is)
    (case k_law_safe => k_is)
    (case a_law_lost => k_is)
    (case l_law_lost => k_is)
    (case c_law_lost => k_is)
    (case k_law_lost => k_is)
    (case a_law_driven => k_is)
    (case l_law_driven => k_is)
    (case c_law_driven => k_is)
    (case k_law_driven => k_is)
    (case a_law_changed => k_is)
    (case l_law_changed => k_is)
    (case c_law_changed => k_is)
    (case k_law_changed => k_is)
    (case a_law_error => k_is)
    (case l_law_error => k_is)
    (case c_law_error => k_is)
    (case k_law_error => k_is)
    (case a_law_same_told => k_is)
    (case l_law_same_told => k_is)
    (case c_law_same_told => k_is)
    (case k_law_same_told => k_is)
    (case a_law_right_moves => k_is)
    (case l_law_right_moves => k_is)
    (case c_law_right_moves => k_is)
    (case k_law_right_moves => k_is)
    (case a_law_right_rounds => k_is)
    (case l_law_right_rounds => k_is)
    (case c_law_right_rounds => k_is)
    (case k_law_right_rounds => k_is)
    (case a_law => k_is)
    (case l_law => k_is)
    (case c_law => k_is)
    (case k_law => k_is)
    (case n_all => k_is)
    (case n_any => k_is)
    (case n_bool => k_is)
    (case n_enumerate => k_is)
    (case n_int => k_is)
    (case n_isinstance => k_is)
    (case n_len => k_is)
    (case n_list => k_is)
    (case n_range => k_is)
    (case n_str => k_is)
    (case n_tuple => k_is)
    (case z_ROWS => k_is)
    (case g_0 => k_is)
    (case g_1 => k_is)
    (case g_2 => k_is)
    (case ec_0_0 => k_is)
    (case ec_0_1 => k_is)
    (case ec_0_2 => k_is)
    (case ec_0_3 => k_is)
    (case ec_0_4 => k_is)
    (case ec_0_5 => k_is)
    (case ec_0_6 => k_is)
    (case ec_0_7 => k_is)
    (case ex_0 => kts_exm)
    (case kit_0_0 => kit_is)
    (case kit_0_1 => kit_is)
    (case ec_1_0 => k_is)
    (case ec_1_1 => k_is)
    (case ec_1_2 => k_is)
    (case ec_1_3 => k_is)
    (case ec_1_4 => k_is)
    (case ec_1_5 => k_is)
    (case ec_1_6 => k_is)
    (case ec_1_7 => k_is)
    (case ex_1 => kts_exm)
    (case kit_1_0 => kit_is)
    (case kit_1_1 => kit_is)
    (case x_0 => k_exc)
    (case k_0 => k_is)
    (case b_0 => k_is)
    (case t_0 => k_is)
    (case x_1 => k_exc)
    (case k_1 => k_is)
    (case b_1 => k_is)
    (case t_1 => k_is)

