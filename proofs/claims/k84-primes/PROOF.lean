import PyProof.Rows.All
import Wide.All
import OpenK.AllK
import Wide.FinOn
import HandS.ForMost
import HandS.Exc
import HandS.TryOnly
import HandS.ExcOwn
import HandS.WordsExc
import HandS.IsInst
import HandS.Sort
import HandS.ExcIs
import PySem.Challenge.RW_pinsalone_k84_primes_and_own_cases
import KE.GoesMore
import HandS.Iter
import KE.GoesEnum
import HandS.Style
import HandS.TupAny
import HandS.More
import HandS.Conv
set_option Elab.async false
set_option linter.all false
set_option maxRecDepth 100000
set_option maxHeartbeats 4000000
/-! Mirrors: results, representations, evaluation judgements -/
namespace Mw
open PySem L2

/-! ### results -/
inductive Res (α : Type) where
  | ok (a : α) | exc (c : Nat) (fs : List (Str × V)) | stuck
namespace Res
variable {α β γ : Type}
def bind : Res α → (α → Res β) → Res β
  | .ok a, f => f a
  | .exc c fs, _ => .exc c fs
  | .stuck, _ => .stuck
@[simp] theorem bind_ok (a : α) (f : α → Res β) : (Res.ok a).bind f = f a := rfl
@[simp] theorem bind_exc (c fs) (f : α → Res β) : (Res.exc c fs : Res α).bind f = .exc c fs := rfl
@[simp] theorem bind_stuck (f : α → Res β) : (Res.stuck : Res α).bind f = .stuck := rfl
def wp (m : Res α) (Q : α → Prop) (E : Nat → List (Str × V) → Prop) : Prop :=
  match m with
  | .ok a => Q a
  | .exc c fs => E c fs
  | .stuck => False
theorem wp_bind {m : Res α} {f : α → Res β} {Q E} (h : (m.bind f).wp Q E) : m.wp (fun a => (f a).wp Q E) E := by
  cases m <;> exact h
theorem wp_mono {m : Res α} {Q Q' : α → Prop} {E E' : Nat → List (Str × V) → Prop} (h : m.wp Q E) (hq : ∀ a, Q a → Q' a) (he : ∀ c fs, E c fs → E' c fs) : m.wp Q' E' := by
  cases m
  · exact hq _ h
  · exact he _ _ h
  · exact h
theorem wp_ok {a : α} {Q : α → Prop} {E} (h : Q a) : (Res.ok a).wp Q E := h
/-- the same, not opened by itself -/
@[irreducible] def _root_.Mw.Wp {α : Type} (m : Res α) (Q : α → Prop) (E : Nat → List (Str × V) → Prop) : Prop := m.wp Q E
theorem _root_.Mw.Wp.out {α : Type} {m : Res α} {Q : α → Prop} {E} (h : Mw.Wp m Q E) : m.wp Q E := by unfold Mw.Wp at h; exact h
theorem _root_.Mw.Wp.mk {α : Type} {m : Res α} {Q : α → Prop} {E} (h : m.wp Q E) : Mw.Wp m Q E := by unfold Mw.Wp; exact h
/-- no exception may leave -/
def nox : Res α → Res α
  | .exc _ _ => .stuck
  | m => m
@[simp] theorem nox_ok (a : α) : nox (.ok a) = .ok a := rfl
theorem wp_nox {m : Res α} {Q : α → Prop} {E E' : Nat → List (Str × V) → Prop} (h : m.nox.wp Q E) : m.wp Q E' := by
  cases m
  · exact h
  · exact h.elim
  · exact h
def ite (c : Res Bool) (a b : Res α) : Res α := c.bind fun k => if k = true then a else b
@[simp] theorem ite_true (a b : Res α) : ite (.ok true) a b = a := rfl
@[simp] theorem ite_false (a b : Res α) : ite (.ok false) a b = b := rfl
theorem ite_ok (k : Bool) (a b : Res α) : ite (.ok k) a b = if k = true then a else b := rfl
def bind2 (f : α → β → Res γ) (a : Res α) (b : Res β) : Res γ := a.bind fun x => b.bind fun y => f x y
@[simp] theorem bind2_ok (f : α → β → Res γ) (a : α) (b : β) : bind2 f (.ok a) (.ok b) = f a b := rfl
end Res

/-! ### representations -/
structure Rp (α : Type) where
  r : PySem.W.Frag → Hp → V → α → Prop
  mono : ∀ {K G G' v a}, Same G G' → r K G v a → r K G' v a

theorem same_rd {H H' : Hp} {a : Addr} {u : HO} (e : Same H H') (h : Rd H a u) : Rd H' a u := by
  rcases h with h | ⟨o, h⟩
  · exact Or.inl (e a _ h)
  · exact Or.inr ⟨o, e a _ h⟩
theorem same_l {K : PySem.W.Frag} {H H' : Hp} {a : Addr} {xs : List V} (e : Same H H') (h : SqL K H a xs) : SqL K H' a xs := by
  rcases h with h | h
  · exact Or.inl (same_rd e h)
  · exact Or.inr h
theorem same_t {K : PySem.W.Frag} {H H' : Hp} {a : Addr} {xs : List V} (e : Same H H') (h : SqT K H a xs) : SqT K H' a xs := by
  rcases h with h | h
  · exact Or.inl (same_rd e h)
  · exact Or.inr h
theorem same_new {H : Hp} {p : Addr} {o : HO} (h : H p = none) : Same H (upd H p o) := fun a u e => by
  rw [upd_ne (ne_of_none e h)]
  exact e
theorem same_upd {G H : Hp} {p : Addr} {o : HO} (e : Same G H) : Same (upd G p o) (upd H p o) := fun a u h => by
  by_cases q : a = p
  · subst q; rw [upd_same] at h ⊢; exact h
  · rw [upd_ne q] at h ⊢; exact e a u h
theorem same_updG {G H : Hp} {p : Addr} {o : HO} (e : Same G H) (hp : H p = some o) : Same (upd G p o) H := fun a u h => by
  by_cases q : a = p
  · subst q; rw [upd_same] at h; rw [hp]; exact h
  · rw [upd_ne q] at h; exact e a u h
/-- a cell that G doesn't know is written -/
theorem same_mut {G H : Hp} {p : Addr} {o : HO} (e : Same G H) (h : G p = none) : Same G (upd H p o) := fun a u ha => by
  rw [upd_ne (ne_of_none ha h)]
  exact e a u ha
theorem same_back {G H : Hp} {p : Addr} (e : Same G H) (h : H p = none) : G p = none := by
  cases h1 : G p with
  | none => rfl
  | some o => rw [e p o h1] at h; cases h

section
variable {α β γ : Type} {K : PySem.W.Frag} {G G' : Hp}
abbrev RLs (R : Rp α) (K : PySem.W.Frag) (G : Hp) : List V → List α → Prop := Paired (R.r K G)
theorem RLs.mono {R : Rp α} {vs : List V} {xs : List α} (e : Same G G') (h : RLs R K G vs xs) : RLs R K G' vs xs := Paired.mapP h fun _ _ q => R.mono e q
theorem paired_get {F : α → β → Prop} : ∀ {l₁ : List α} {l₂ : List β} {i : Nat} {a : α}, Paired F l₁ l₂ → l₁[i]? = some a → ∃ b, l₂[i]? = some b ∧ F a b
  | _, _, _, _, .nil, e => by simp at e
  | _, _, 0, _, .cons r _, e => by simp at e; subst e; exact ⟨_, rfl, r⟩
  | _, _, i + 1, _, .cons _ t, e => by
    obtain ⟨u, h1, h2⟩ := paired_get (i := i) t (by simpa using e)
    exact ⟨u, by simpa using h1, h2⟩
theorem paired_get' {F : α → β → Prop} : ∀ {l₁ : List α} {l₂ : List β} {i : Nat} {b : β}, Paired F l₁ l₂ → l₂[i]? = some b → ∃ a, l₁[i]? = some a ∧ F a b
  | _, _, _, _, .nil, e => by simp at e
  | _, _, 0, _, .cons r _, e => by simp at e; subst e; exact ⟨_, rfl, r⟩
  | _, _, i + 1, _, .cons _ t, e => by
    obtain ⟨u, h1, h2⟩ := paired_get' (i := i) t (by simpa using e)
    exact ⟨u, by simpa using h1, h2⟩
theorem paired_app {F : α → β → Prop} : ∀ {l₁ l₁' : List α} {l₂ l₂' : List β}, Paired F l₁ l₂ → Paired F l₁' l₂' → Paired F (l₁ ++ l₁') (l₂ ++ l₂')
  | _, _, _, _, .nil, s => s
  | _, _, _, _, .cons r t, s => .cons r (paired_app t s)
theorem paired_set {F : α → β → Prop} {x : α} {y : β} (r : F x y) : ∀ {xs : List α} {ys : List β} (i : Nat), Paired F xs ys → Paired F (xs.set i x) (ys.set i y)
  | _, _, _, .nil => .nil
  | _, _, 0, .cons _ t => .cons r t
  | _, _, i + 1, .cons q t => .cons q (paired_set r i t)
theorem paired_take {F : α → β → Prop} : ∀ {xs : List α} {us : List β} (n : Nat), Paired F xs us → Paired F (xs.take n) (us.take n)
  | _, _, 0, _ => .nil
  | _, _, _ + 1, .nil => .nil
  | _, _, n + 1, .cons r t => .cons r (paired_take n t)
theorem paired_drop {F : α → β → Prop} : ∀ {xs : List α} {us : List β} (n : Nat), Paired F xs us → Paired F (xs.drop n) (us.drop n)
  | _, _, 0, r => r
  | _, _, _ + 1, .nil => .nil
  | _, _, n + 1, .cons _ t => paired_drop n t
theorem paired_rev {F : α → β → Prop} {xs : List α} {us : List β} (h : Paired F xs us) : Paired F xs.reverse us.reverse := by
  induction h with
  | nil => exact .nil
  | cons r t ih => rw [List.reverse_cons, List.reverse_cons]; exact paired_app ih (.cons r .nil)
theorem paired_map {F : α → β → Prop} (f : β → α) (h : ∀ b, F (f b) b) : ∀ l : List β, Paired F (l.map f) l
  | [] => .nil
  | b :: l => .cons (h b) (paired_map f h l)
end

def zI : Rp Int := ⟨fun _ _ v a => v = .int a, fun _ h => h⟩
def rB : Rp Bool := ⟨fun _ _ v a => v = .bl a, fun _ h => h⟩
def rN : Rp Unit := ⟨fun _ _ v _ => v = .non, fun _ h => h⟩
def rS : Rp Str := ⟨fun _ _ v a => v = .str a, fun _ h => h⟩
def rO {α : Type} (R : Rp α) : Rp (Option α) := ⟨fun K G v o => match o with | none => v = .non | some a => v ≠ .non ∧ R.r K G v a, fun {K G G' v o} e h => by
  cases o with
  | none => exact h
  | some a => exact ⟨h.1, R.mono e h.2⟩⟩
def rL {α : Type} (R : Rp α) : Rp (List α) := ⟨fun K G v xs => ∃ p vs, v = .ref p ∧ SqL K G p vs ∧ RLs R K G vs xs, fun e ⟨p, vs, a, b, c⟩ => ⟨p, vs, a, same_l e b, c.mono e⟩⟩
/-- a tuple of any length -/
def rT {α : Type} (R : Rp α) : Rp (List α) := ⟨fun K G v xs => ∃ p vs, v = .ref p ∧ SqT K G p vs ∧ RLs R K G vs xs, fun e ⟨p, vs, a, b, c⟩ => ⟨p, vs, a, same_t e b, c.mono e⟩⟩
/-- lists of values that are told by a product -/
structure Rps (α : Type) where
  r : PySem.W.Frag → Hp → List V → α → Prop
  mono : ∀ {K G G' v a}, Same G G' → r K G v a → r K G' v a
def rs1 {α : Type} (R : Rp α) : Rps α := ⟨fun K G vs a => ∃ v, vs = [v] ∧ R.r K G v a, fun e ⟨v, h, q⟩ => ⟨v, h, R.mono e q⟩⟩
def rsC {α β : Type} (R : Rp α) (S : Rps β) : Rps (α × β) := ⟨fun K G vs a => ∃ v r, vs = v :: r ∧ R.r K G v a.1 ∧ S.r K G r a.2, fun e ⟨v, r, h, q, t⟩ => ⟨v, r, h, R.mono e q, S.mono e t⟩⟩
/-- a tuple of a fixed length -/
def rP {α : Type} (S : Rps α) : Rp α := ⟨fun K G v a => ∃ p vs, v = .ref p ∧ SqT K G p vs ∧ S.r K G vs a, fun e ⟨p, vs, a, b, c⟩ => ⟨p, vs, a, same_t e b, S.mono e c⟩⟩
abbrev rP2 {α β : Type} (R : Rp α) (S : Rp β) : Rp (α × β) := rP (rsC R (rs1 S))
abbrev rP3 {α β γ : Type} (R : Rp α) (S : Rp β) (T : Rp γ) : Rp (α × β × γ) := rP (rsC R (rsC S (rs1 T)))

/-- representations that don't look at the heap -/
def Sc {α : Type} (R : Rp α) : Prop := ∀ K G G' v a, R.r K G v a → R.r K G' v a
theorem sc_I : Sc zI := fun _ _ _ _ _ h => h
theorem sc_B : Sc rB := fun _ _ _ _ _ h => h
theorem sc_N : Sc rN := fun _ _ _ _ _ h => h
theorem sc_S : Sc rS := fun _ _ _ _ _ h => h
theorem sc_O {α : Type} {R : Rp α} (h : Sc R) : Sc (rO R) := fun K G G' v o q => by
  cases o with
  | none => exact q
  | some a => exact ⟨q.1, h K G G' v a q.2⟩

/-! ### states -/
abbrev Own := List (Addr × HO)
/-- an exception's own dict -/
def XdOk (fs : List (Str × V)) (d : Option Addr) (H : Hp) : Prop :=
  match fs with
  | [] => d = none
  | _ => ∃ a, d = some a ∧ H a = some (.xd fs)
structure Fm where
  F : Hp
  G0 : Hp
  E : XK
  cl : Nat → Addr
def Fm.xw (fm : Fm) (c : Nat) (fs : List (Str × V)) : Prop := ∀ H' d, Same fm.F H' → XdOk fs d H' → fm.E (.ref (fm.cl c)) d H'
/-- what is known -/
structure Kn (fm : Fm) (G : Hp) (O : Own) (H : Hp) : Prop where
  fr : Same fm.F H
  gh : Same G H
  own : ∀ p ∈ O, H p.1 = some p.2
/-- a pure step -/
structure Stp (G1 H1 G2 H2 : Hp) : Prop where
  hh : Same H1 H2
  gg : Same G1 G2
  gh : Same G2 H2
  old : ∀ b o, H1 b = some o → G2 b = G1 b
theorem Stp.refl {G H : Hp} (h : Same G H) : Stp G H G H := ⟨Same.refl _, Same.refl _, h, fun _ _ _ => rfl⟩
theorem Stp.trans {G1 H1 G2 H2 G3 H3 : Hp} (a : Stp G1 H1 G2 H2) (b : Stp G2 H2 G3 H3) : Stp G1 H1 G3 H3 :=
  ⟨a.hh.trans b.hh, a.gg.trans b.gg, b.gh, fun x o h => (b.old x o (a.hh x o h)).trans (a.old x o h)⟩
/-- the heap alone has grown -/
theorem Stp.grow {G H H' : Hp} (g : Same G H) (h : Same H H') : Stp G H G H' := ⟨h, Same.refl _, g.trans h, fun _ _ _ => rfl⟩
/-- a new object that stays as it is -/
theorem Stp.new {G H : Hp} {p : Addr} {o : HO} (g : Same G H) (h : H p = none) : Stp G H (upd G p o) (upd H p o) :=
  ⟨same_new h, same_new (same_back g h), same_upd g, fun b u e => upd_ne (ne_of_none e h)⟩
theorem Kn.stp {fm : Fm} {G1 H1 G2 H2 : Hp} {O : Own} (k : Kn fm G1 O H1) (s : Stp G1 H1 G2 H2) : Kn fm G2 O H2 :=
  ⟨k.fr.trans s.hh, s.gh, fun p hp => s.hh _ _ (k.own p hp)⟩

section
variable {α β γ δ : Type} {K : PySem.W.Frag} {fm : Fm} {σ : L2.St} {G G' H : Hp} {O : Own}
/-! ### what evaluates to what -/
def EvE (K : PySem.W.Frag) (fm : Fm) (te : TE) (σ : L2.St) (G : Hp) (O : Own) (R : Rp α) (m : Res α) : Prop :=
  ∀ G1 H1, Same G G1 → Kn fm G1 O H1 → ∀ Q : VK, m.wp (fun x => ∀ v G2 H2, Stp G1 H1 G2 H2 → R.r K G2 v x → Q v H2) fm.xw → te σ H1 Q
/-- a new list, not yet given away -/
def EvN (K : PySem.W.Frag) (fm : Fm) (te : TE) (σ : L2.St) (G : Hp) (O : Own) (R : Rp α) (m : Res (List α)) : Prop :=
  ∀ G1 H1, Same G G1 → Kn fm G1 O H1 → ∀ Q : VK, m.wp (fun xs => ∀ p vs G2 H2, Stp G1 H1 G2 H2 → H1 p = none → G2 p = none → H2 p = some (.lst vs) → RLs R K G2 vs xs → Q (.ref p) H2) fm.xw → te σ H1 Q
def EvT (fm : Fm) (tt : TT) (σ : L2.St) (G : Hp) (O : Own) (m : Res Bool) : Prop :=
  ∀ G1 H1, Same G G1 → Kn fm G1 O H1 → ∀ Q : Bool → Hp → Prop, m.wp (fun b => ∀ G2 H2, Stp G1 H1 G2 H2 → Q b H2) fm.xw → tt σ H1 Q
def EvA (K : PySem.W.Frag) (fm : Fm) (ta : TA) (σ : L2.St) (G : Hp) (O : Own) (R : Rps α) (m : Res α) : Prop :=
  ∀ G1 H1, Same G G1 → Kn fm G1 O H1 → ∀ Q : List V → Hp → Prop, m.wp (fun x => ∀ vs G2 H2, Stp G1 H1 G2 H2 → R.r K G2 vs x → Q vs H2) fm.xw → ta σ H1 Q

variable {te ta tb : TE} {R : Rp α} {S : Rp β} {T : Rp γ} {m : Res α} {n : Res β}
theorem EvE.mono (e : Same G G') (h : EvE K fm te σ G O R m) : EvE K fm te σ G' O R m := fun G1 H1 a => h G1 H1 (e.trans a)
theorem EvN.mono (e : Same G G') {m : Res (List α)} (h : EvN K fm te σ G O R m) : EvN K fm te σ G' O R m := fun G1 H1 a => h G1 H1 (e.trans a)
theorem EvT.mono {tt : TT} (e : Same G G') {m : Res Bool} (h : EvT fm tt σ G O m) : EvT fm tt σ G' O m := fun G1 H1 a => h G1 H1 (e.trans a)
theorem EvE.own {O' : Own} (h : EvE K fm te σ G O R m) (s : ∀ p ∈ O, p ∈ O') : EvE K fm te σ G O' R m := fun G1 H1 a k => h G1 H1 a ⟨k.fr, k.gh, fun p hp => k.own p (s p hp)⟩
theorem EvT.own {O' : Own} {tt : TT} {m : Res Bool} (h : EvT fm tt σ G O m) (s : ∀ p ∈ O, p ∈ O') : EvT fm tt σ G O' m := fun G1 H1 a k => h G1 H1 a ⟨k.fr, k.gh, fun p hp => k.own p (s p hp)⟩
/-- a new list given away -/
theorem EvN.ev {m : Res (List α)} (h : EvN K fm te σ G O R m) : EvE K fm te σ G O (rL R) m := fun G1 H1 a k Q q =>
  h G1 H1 a k Q (Res.wp_mono q (fun xs f p vs G2 H2 s hp gp hl r =>
    f (.ref p) (upd G2 p (.lst vs)) H2 ⟨s.hh, s.gg.trans (same_new gp), same_updG s.gh hl, fun b o e => by
        rw [upd_ne (ne_of_none e hp)]; exact s.old b o e⟩
      ⟨p, vs, rfl, .inl (.inl upd_same), r.mono (same_new gp)⟩) fun _ _ x => x)

/-! ### atoms -/
theorem e_var {i : Nat} {v : V} {x : α} (h : σ[i]? = some (some v)) (r : R.r K G v x) : EvE K fm (tVar i) σ G O R (.ok x) := fun G1 H1 a k Q q =>
  ⟨v, h, q v G1 H1 (Stp.refl k.gh) (R.mono a r)⟩
/-- a list of one's own, read as it stands -/
theorem e_c {v : V} {x : α} (r : ∀ G', R.r K G' v x) : EvE K fm (tC v) σ G O R (.ok x) := fun G1 H1 a k Q q => q v G1 H1 (Stp.refl k.gh) (r G1)
theorem e_int {i : Int} : EvE K fm (tC (.int i)) σ G O zI (.ok i) := e_c fun _ => rfl
theorem e_bl {b : Bool} : EvE K fm (tC (.bl b)) σ G O rB (.ok b) := e_c fun _ => rfl
theorem e_str {s : Str} : EvE K fm (tC (.str s)) σ G O rS (.ok s) := e_c fun _ => rfl
theorem e_non : EvE K fm (tC .non) σ G O rN (.ok ()) := e_c fun _ => rfl
theorem e_nonO : EvE K fm (tC .non) σ G O (rO R) (.ok none) := e_c fun _ => rfl
def someM {α : Type} (m : Res α) : Res (Option α) := m.bind fun x => .ok (some x)
@[simp] theorem someM_ok {α : Type} (x : α) : someM (.ok x) = .ok (some x) := rfl
/-- never None -/
def Nn (R : Rp α) : Prop := ∀ K G v x, R.r K G v x → v ≠ .non
theorem nn_I : Nn zI := fun _ _ v x h => by cases (show v = .int x from h); simp
theorem nn_B : Nn rB := fun _ _ v x h => by cases (show v = .bl x from h); simp
theorem nn_S : Nn rS := fun _ _ v x h => by cases (show v = .str x from h); simp
theorem nn_L : Nn (rL R) := fun _ _ v x ⟨p, vs, h, _⟩ => by cases h; simp
theorem nn_T : Nn (rT R) := fun _ _ v x ⟨p, vs, h, _⟩ => by cases h; simp
theorem nn_P {S : Rps α} : Nn (rP S) := fun _ _ v x ⟨p, vs, h, _⟩ => by cases h; simp
theorem e_some (n : Nn R) (h : EvE K fm te σ G O R m) : EvE K fm te σ G O (rO R) (someM m) := fun G1 H1 a k Q q =>
  h G1 H1 a k Q (Res.wp_mono (Res.wp_bind q) (fun x f v G2 H2 s r => f v G2 H2 s ⟨n _ _ _ _ r, r⟩) fun _ _ z => z)
/-- an Option that is known to be there -/
def getM {α : Type} : Option α → Res α
  | some a => .ok a
  | none => .stuck
@[simp] theorem getM_some {α : Type} (a : α) : getM (some a) = .ok a := rfl
theorem e_get {m : Res (Option α)} (h : EvE K fm te σ G O (rO R) m) : EvE K fm te σ G O R (m.bind getM) := fun G1 H1 a k Q q =>
  h G1 H1 a k Q (Res.wp_mono (Res.wp_bind q) (fun x f v G2 H2 s r => by
    cases x with
    | none => exact f.elim
    | some y => exact (show ∀ v G2 H2, Stp G1 H1 G2 H2 → R.r K G2 v y → Q v H2 from f) v G2 H2 s r.2) fun _ _ z => z)

/-! ### operators -/
theorem e_op {r : R2} {f : α → β → Res γ} (ha : EvE K fm ta σ G O R m) (hb : EvE K fm tb σ G O S n)
    (hr : ∀ G1 H1 x y u v, Kn fm G1 O H1 → R.r K G1 u x → S.r K G1 v y → ∀ Q : VK, (f x y).wp (fun z => ∀ w G2 H2, Stp G1 H1 G2 H2 → T.r K G2 w z → Q w H2) fm.xw → r u v H1 Q) :
    EvE K fm (tOp r ta tb) σ G O T (Res.bind2 f m n) := fun G1 H1 a k Q q =>
  ha G1 H1 a k _ (Res.wp_mono (Res.wp_bind q) (fun x q u G2 H2 s ru =>
    hb G2 H2 (a.trans s.gg) (k.stp s) _ (Res.wp_mono (Res.wp_bind q) (fun y q v G3 H3 s' rv =>
      hr G3 H3 x y u v ((k.stp s).stp s') (R.mono s'.gg ru) rv Q (Res.wp_mono q (fun z q w G4 H4 s'' rw => q w G4 H4 ((s.trans s').trans s'') rw) fun _ _ z => z)) fun _ _ z => z)) fun _ _ z => z)
theorem e_un {r : V → Hp → VK → Prop} {f : α → Res γ} (ha : EvE K fm ta σ G O R m)
    (hr : ∀ G1 H1 x u, Kn fm G1 O H1 → R.r K G1 u x → ∀ Q : VK, (f x).wp (fun z => ∀ w G2 H2, Stp G1 H1 G2 H2 → T.r K G2 w z → Q w H2) fm.xw → r u H1 Q) :
    EvE K fm (tUn r ta) σ G O T (m.bind f) := fun G1 H1 a k Q q =>
  ha G1 H1 a k _ (Res.wp_mono (Res.wp_bind q) (fun x q u G2 H2 s ru =>
    hr G2 H2 x u (k.stp s) ru Q (Res.wp_mono q (fun z q w G4 H4 s'' rw => q w G4 H4 (s.trans s'') rw) fun _ _ z => z)) fun _ _ z => z)

def addM : Res Int → Res Int → Res Int := Res.bind2 fun i j => .ok (i + j)
def subM : Res Int → Res Int → Res Int := Res.bind2 fun i j => .ok (i - j)
def inB (i : Int) : Bool := decide (-(2 ^ 64) < i) && decide (i < 2 ^ 64)
def mulF (i j : Int) : Res Int := if inB i || inB j then .ok (i * j) else .stuck
def mulM : Res Int → Res Int → Res Int := Res.bind2 mulF
def fdivF (i j : Int) : Res Int := if decide (0 < j) && decide (j < 1073741824) then .ok (i / j) else .stuck
def fdivM : Res Int → Res Int → Res Int := Res.bind2 fdivF
def modF (i j : Int) : Res Int := if decide (0 < j) then .ok (i % j) else .stuck
def modM : Res Int → Res Int → Res Int := Res.bind2 modF
def cpow (i j : Int) : Bool := decide (0 ≤ j) && decide (j ≤ 1000000) && decide (i.natAbs < 2 ^ 64)
def powF (i j : Int) : Res Int := if cpow i j then .ok (i ^ j.toNat) else .stuck
def powM : Res Int → Res Int → Res Int := Res.bind2 powF
def shlF (i j : Int) : Res Int := if cpow i j then .ok (i * 2 ^ j.toNat) else .stuck
def shlM : Res Int → Res Int → Res Int := Res.bind2 shlF
def shrF (i j : Int) : Res Int := if decide (0 ≤ j) then .ok (i / 2 ^ j.toNat) else .stuck
def shrM : Res Int → Res Int → Res Int := Res.bind2 shrF
def negM (a : Res Int) : Res Int := a.bind fun i => .ok (-i)
variable {a b : Res Int}
theorem e_add (ha : EvE K fm ta σ G O zI a) (hb : EvE K fm tb σ G O zI b) : EvE K fm (tOp (L2.rI0 fun i j => .int (i + j)) ta tb) σ G O zI (addM a b) :=
  e_op ha hb fun G1 H1 x y u v k ru rv Q q => ⟨x, y, ru, rv, q _ G1 H1 (Stp.refl k.gh) rfl⟩
theorem e_sub (ha : EvE K fm ta σ G O zI a) (hb : EvE K fm tb σ G O zI b) : EvE K fm (tOp (L2.rI0 fun i j => .int (i - j)) ta tb) σ G O zI (subM a b) :=
  e_op ha hb fun G1 H1 x y u v k ru rv Q q => ⟨x, y, ru, rv, q _ G1 H1 (Stp.refl k.gh) rfl⟩
theorem e_opI {C : Int → Int → Prop} {c : Int → Int → Bool} {g : Int → Int → Int} (hc : ∀ i j, c i j = true → C i j) (ha : EvE K fm ta σ G O zI a) (hb : EvE K fm tb σ G O zI b) :
    EvE K fm (tOp (L2.rI C fun i j => .int (g i j)) ta tb) σ G O zI (Res.bind2 (fun i j => if c i j = true then .ok (g i j) else .stuck) a b) :=
  e_op ha hb fun G1 H1 x y u v k ru rv Q q => by
    cases e : c x y with
    | true => simp only [e, if_true] at q; exact ⟨x, y, ru, rv, hc x y e, q _ G1 H1 (Stp.refl k.gh) rfl⟩
    | false => simp only [e] at q; exact q.elim
theorem e_mul (ha : EvE K fm ta σ G O zI a) (hb : EvE K fm tb σ G O zI b) : EvE K fm (tOp (L2.rI CMul fun i j => .int (i * j)) ta tb) σ G O zI (mulM a b) :=
  e_opI (c := fun i j => inB i || inB j) (fun i j h => by
    simp only [inB, Bool.or_eq_true, Bool.and_eq_true, decide_eq_true_eq] at h
    exact h) ha hb
theorem e_fdiv (ha : EvE K fm ta σ G O zI a) (hb : EvE K fm tb σ G O zI b) : EvE K fm (tOp (L2.rI CDiv fun i j => .int (i / j)) ta tb) σ G O zI (fdivM a b) :=
  e_opI (c := fun _ j => decide (0 < j) && decide (j < 1073741824)) (fun i j h => by
    simp only [Bool.and_eq_true, decide_eq_true_eq] at h
    exact h) ha hb
theorem e_mod (ha : EvE K fm ta σ G O zI a) (hb : EvE K fm tb σ G O zI b) : EvE K fm (tOp (L2.rI (fun _ j => 0 < j) fun i j => .int (i % j)) ta tb) σ G O zI (modM a b) :=
  e_opI (c := fun _ j => decide (0 < j)) (fun i j h => by simpa using h) ha hb
theorem cpow_ok {i j : Int} (h : cpow i j = true) : CPow i j := by
  simp only [cpow, Bool.and_eq_true, decide_eq_true_eq] at h
  exact ⟨h.1.1, h.1.2, h.2⟩
theorem e_pow (ha : EvE K fm ta σ G O zI a) (hb : EvE K fm tb σ G O zI b) : EvE K fm (tOp (L2.rI CPow fun i j => .int (i ^ j.toNat)) ta tb) σ G O zI (powM a b) := e_opI (c := cpow) (fun _ _ h => cpow_ok h) ha hb
theorem e_shl (ha : EvE K fm ta σ G O zI a) (hb : EvE K fm tb σ G O zI b) : EvE K fm (tOp (L2.rI CPow fun i j => .int (i * 2 ^ j.toNat)) ta tb) σ G O zI (shlM a b) := e_opI (c := cpow) (fun _ _ h => cpow_ok h) ha hb
theorem e_shr (ha : EvE K fm ta σ G O zI a) (hb : EvE K fm tb σ G O zI b) : EvE K fm (tOp (L2.rI (fun _ j => 0 ≤ j) fun i j => .int (i / 2 ^ j.toNat)) ta tb) σ G O zI (shrM a b) := e_opI (c := fun _ j => decide (0 ≤ j)) (fun i j h => by simpa using h) ha hb
theorem e_neg (ha : EvE K fm ta σ G O zI a) : EvE K fm (tUn (L2.rU fun i => .int (-i)) ta) σ G O zI (negM a) :=
  e_un ha fun G1 H1 x u k ru Q q => ⟨x, ru, q _ G1 H1 (Stp.refl k.gh) rfl⟩
end
end Mw

namespace Mw
open PySem L2
section
variable {α β γ δ : Type} {K : PySem.W.Frag} {fm : Fm} {σ : L2.St} {G G' H : Hp} {O : Own}
variable {te ta tb tc : TE} {R : Rp α} {S : Rp β} {T : Rp γ} {m : Res α} {n : Res β}

/-! ### comparisons of ints -/
def cmpM (p : Int → Int → Bool) : Res Int → Res Int → Res Bool := Res.bind2 fun i j => .ok (p i j)
abbrev ltM := cmpM fun i j => decide (i < j)
abbrev leM := cmpM fun i j => decide (i ≤ j)
abbrev gtM := cmpM fun i j => decide (j < i)
abbrev geM := cmpM fun i j => decide (j ≤ i)
@[simp] theorem cmpM_ok (p : Int → Int → Bool) (i j : Int) : cmpM p (.ok i) (.ok j) = .ok (p i j) := rfl
theorem e_cmp {p : Int → Int → Bool} {a b : Res Int} (ha : EvE K fm ta σ G O zI a) (hb : EvE K fm tb σ G O zI b) : EvE K fm (tOp (L2.rI0 fun i j => .bl (p i j)) ta tb) σ G O rB (cmpM p a b) :=
  e_op ha hb fun G1 H1 x y u v k ru rv Q q => ⟨x, y, ru, rv, q _ G1 H1 (Stp.refl k.gh) rfl⟩

/-! ### scalars: their values -/
structure Sr {α : Type} [DecidableEq α] (R : Rp α) where
  enc : α → V
  is : ∀ {K G v x}, R.r K G v x → v = enc x
  inj : ∀ {x y}, enc x = enc y → x = y
  sc : ∀ x y, scal (enc x) (enc y) = true
  fl : ∀ x, flatV (enc x) = true
  eq : ∀ x y, eqV (enc x) (enc y) = decide (x = y)
def srI : Sr zI := ⟨.int, fun h => h, fun h => by injection h, fun _ _ => rfl, fun _ => rfl, fun x y => by show (x == y) = _; rw [Bool.beq_eq_decide_eq]⟩
def srB : Sr rB := ⟨.bl, fun h => h, fun h => by injection h, fun _ _ => rfl, fun _ => rfl, fun x y => by show (x == y) = _; rw [Bool.beq_eq_decide_eq]⟩
def srS : Sr rS := ⟨.str, fun h => h, fun h => by injection h, fun _ _ => rfl, fun _ => rfl, fun x y => by show (x == y) = _; rw [Bool.beq_eq_decide_eq]⟩
def encO {α : Type} (e : α → V) : Option α → V
  | none => .non
  | some a => e a
def srOI : Sr (rO zI) := ⟨encO .int, fun {K G v x} h => by
    cases x with
    | none => exact h
    | some a => exact h.2, fun {x y} h => by
    cases x <;> cases y
    · rfl
    · cases h
    · cases h
    · injection h with h; rw [h], fun x y => by cases x <;> cases y <;> rfl, fun x => by cases x <;> rfl, fun x y => by
    cases x <;> cases y
    · rfl
    · rfl
    · rfl
    · rename_i a b
      show (a == b) = _
      rw [Bool.beq_eq_decide_eq]
      exact decide_eq_decide.mpr ⟨fun h => by rw [h], fun h => by injection h⟩⟩
def eqM {α : Type} [DecidableEq α] : Res α → Res α → Res Bool := Res.bind2 fun x y => .ok (decide (x = y))
def neM {α : Type} [DecidableEq α] : Res α → Res α → Res Bool := Res.bind2 fun x y => .ok (!decide (x = y))
@[simp] theorem eqM_ok {α : Type} [DecidableEq α] (x y : α) : eqM (.ok x) (.ok y) = .ok (decide (x = y)) := rfl
@[simp] theorem neM_ok {α : Type} [DecidableEq α] (x y : α) : neM (.ok x) (.ok y) = .ok (!decide (x = y)) := rfl
theorem e_eq [DecidableEq α] (s : Sr R) {n : Res α} (ha : EvE K fm ta σ G O R m) (hb : EvE K fm tb σ G O R n) : EvE K fm (tOp rEq ta tb) σ G O rB (eqM m n) :=
  e_op ha hb fun G1 H1 x y u v k ru rv Q q => by
    cases s.is ru; cases s.is rv
    exact ⟨s.sc x y, q _ G1 H1 (Stp.refl k.gh) (by
      show V.bl _ = V.bl _
      rw [decide_eq_decide.mpr ⟨s.inj, fun h => by rw [h]⟩])⟩
theorem e_ne [DecidableEq α] (s : Sr R) {n : Res α} (ha : EvE K fm ta σ G O R m) (hb : EvE K fm tb σ G O R n) : EvE K fm (tOp rNe ta tb) σ G O rB (neM m n) :=
  e_op ha hb fun G1 H1 x y u v k ru rv Q q => by
    cases s.is ru; cases s.is rv
    exact ⟨s.sc x y, q _ G1 H1 (Stp.refl k.gh) (by
      show V.bl _ = V.bl _
      rw [decide_eq_decide.mpr ⟨s.inj, fun h => by rw [h]⟩])⟩
/-- is None -/
def isNM {α : Type} (a : Res (Option α)) : Res Bool := a.bind fun x => .ok x.isNone
def notNM {α : Type} (a : Res (Option α)) : Res Bool := a.bind fun x => .ok x.isSome
@[simp] theorem isNM_ok {α : Type} (x : Option α) : isNM (.ok x) = .ok x.isNone := rfl
@[simp] theorem notNM_ok {α : Type} (x : Option α) : notNM (.ok x) = .ok x.isSome := rfl
theorem rO_none {R : Rp α} {v : V} {x : Option α} (h : (rO R).r K G v x) : decide (v = .non) = x.isNone := by
  cases x with
  | none => exact decide_eq_true h
  | some a => exact decide_eq_false h.1
theorem e_isN {a : Res (Option α)} (ha : EvE K fm ta σ G O (rO R) a) : EvE K fm (tOp (fun x y H Q => y = .non ∧ Q (.bl (decide (x = .non))) H) ta (tC .non)) σ G O rB (isNM a) := fun G1 H1 e k Q q =>
  ha G1 H1 e k _ (Res.wp_mono (Res.wp_bind q) (fun x q v G2 H2 s r => ⟨rfl, by rw [rO_none r]; exact q _ G2 H2 s rfl⟩) fun _ _ z => z)
theorem e_notN {a : Res (Option α)} (ha : EvE K fm ta σ G O (rO R) a) : EvE K fm (tOp (fun x y H Q => y = .non ∧ Q (.bl (!decide (x = .non))) H) ta (tC .non)) σ G O rB (notNM a) := fun G1 H1 e k Q q =>
  ha G1 H1 e k _ (Res.wp_mono (Res.wp_bind q) (fun x q v G2 H2 s r => ⟨rfl, by
    rw [rO_none r]
    exact q _ G2 H2 s (by show V.bl _ = V.bl _; cases x <;> rfl)⟩) fun _ _ z => z)

/-! ### == of nested data -/
structure Qd {α : Type} [DecidableEq α] (R : Rp α) where
  dat : α → PyData
  dp : ∀ {K G v x}, R.r K G v x → Dp K G v (dat x)
  lay : ∀ x, (dat x).canLay0 = true
  dep : Nat
  dle : ∀ x, (dat x).depth ≤ dep
  eqv : ∀ x y, PyData.eqv (dat x) (dat y) = decide (x = y)
  nn : Bool
  nnd : nn = true → ∀ x, dat x ≠ .none
structure Qds {α : Type} [DecidableEq α] (R : Rps α) where
  dat : α → List PyData
  dp : ∀ {K G v x}, R.r K G v x → DpAll K G v (dat x)
  lay : ∀ x, PyData.canLayAll0 (dat x) = true
  dep : Nat
  dle : ∀ x, PyData.depthAll (dat x) ≤ dep
  eqv : ∀ x y, PyData.eqvAll (dat x) (dat y) = decide (x = y)
def qI : Qd zI := ⟨.int, fun h => by cases h; exact .int _, fun _ => rfl, 0, fun _ => Nat.le_refl _, fun x y => by simp only [PyData.eqv]; rw [Bool.beq_eq_decide_eq], true, fun _ _ h => nomatch h⟩
def qB : Qd rB := ⟨.bool, fun h => by cases h; exact .bl _, fun _ => rfl, 0, fun _ => Nat.le_refl _, fun x y => by simp only [PyData.eqv]; rw [Bool.beq_eq_decide_eq], true, fun _ _ h => nomatch h⟩
theorem eqv_none_l {d : PyData} (h : d ≠ .none) : PyData.eqv .none d = false := by
  cases d <;> first | exact absurd rfl h | simp [PyData.eqv]
theorem eqv_none_r {d : PyData} (h : d ≠ .none) : PyData.eqv d .none = false := by
  cases d <;> first | exact absurd rfl h | simp [PyData.eqv]
def qO [DecidableEq α] (q : Qd R) (hn : q.nn = true) : Qd (rO R) where
  dat o := match o with | none => .none | some a => q.dat a
  dp {K G v x} h := by
    cases x with
    | none => cases (show v = .non from h); exact .non
    | some a => exact q.dp h.2
  lay o := by cases o; rfl; exact q.lay _
  dep := q.dep
  dle o := by cases o; exact Nat.zero_le _; exact q.dle _
  eqv x y := by
    cases x <;> cases y
    · simp [PyData.eqv]
    · rw [eqv_none_l (q.nnd hn _)]; simp
    · rw [eqv_none_r (q.nnd hn _)]; simp
    · show PyData.eqv (q.dat _) (q.dat _) = _
      rw [q.eqv]; exact decide_eq_decide.mpr ⟨fun h => by rw [h], fun h => by injection h⟩
  nn := false
  nnd h := nomatch h
theorem canLayAll_map [DecidableEq α] (q : Qd R) : ∀ xs : List α, PyData.canLayAll0 (xs.map q.dat) = true
  | [] => rfl
  | x :: xs => by rw [List.map_cons, PyData.canLayAll0, q.lay x, canLayAll_map q xs]; rfl
theorem depthAll_map [DecidableEq α] (q : Qd R) : ∀ xs : List α, PyData.depthAll (xs.map q.dat) ≤ q.dep
  | [] => Nat.zero_le _
  | x :: xs => by rw [List.map_cons, PyData.depthAll]; exact Nat.max_le.mpr ⟨q.dle x, depthAll_map q xs⟩
theorem eqvAll_map [DecidableEq α] (q : Qd R) : ∀ xs ys : List α, PyData.eqvAll (xs.map q.dat) (ys.map q.dat) = decide (xs = ys)
  | [], [] => by simp only [List.map_nil, PyData.eqvAll, decide_true]
  | [], _ :: _ => by simp [PyData.eqvAll]
  | _ :: _, [] => by simp [PyData.eqvAll]
  | x :: xs, y :: ys => by
    rw [List.map_cons, List.map_cons, PyData.eqvAll, q.eqv x y, eqvAll_map q xs ys, ← Bool.decide_and]
    exact decide_eq_decide.mpr (by rw [List.cons.injEq])
theorem dpAll_map [DecidableEq α] (q : Qd R) {vs : List V} {xs : List α} (h : RLs R K G vs xs) : DpAll K G vs (xs.map q.dat) := by
  induction h with
  | nil => exact .nil
  | cons r t ih => exact .cons (q.dp r) ih
def qL [DecidableEq α] (q : Qd R) : Qd (rL R) where
  dat xs := .list (xs.map q.dat)
  dp {K G v x} h := by
    obtain ⟨p, vs, e, h, r⟩ := h
    subst e
    exact .lst h (dpAll_map q r)
  lay xs := by rw [PyData.canLay0]; exact canLayAll_map q xs
  dep := q.dep + 1
  dle xs := by rw [PyData.depth]; exact Nat.succ_le_succ (depthAll_map q xs)
  eqv x y := by rw [PyData.eqv]; exact eqvAll_map q x y
  nn := true
  nnd _ _ h := nomatch h
def qT [DecidableEq α] (q : Qd R) : Qd (rT R) where
  dat xs := .tuple (xs.map q.dat)
  dp {K G v x} h := by
    obtain ⟨p, vs, e, h, r⟩ := h
    subst e
    exact .tup h (dpAll_map q r)
  lay xs := by rw [PyData.canLay0]; exact canLayAll_map q xs
  dep := q.dep + 1
  dle xs := by rw [PyData.depth]; exact Nat.succ_le_succ (depthAll_map q xs)
  eqv x y := by rw [PyData.eqv]; exact eqvAll_map q x y
  nn := true
  nnd _ _ h := nomatch h
def qs1 [DecidableEq α] (q : Qd R) : Qds (rs1 R) where
  dat x := [q.dat x]
  dp {K G v x} h := by
    obtain ⟨u, e, h⟩ := h
    subst e
    exact .cons (q.dp h) .nil
  lay x := by simp only [PyData.canLayAll0, q.lay, Bool.and_self]
  dep := q.dep
  dle x := by simp only [PyData.depthAll]; exact Nat.max_le.mpr ⟨q.dle x, Nat.zero_le _⟩
  eqv x y := by simp only [PyData.eqvAll, q.eqv, Bool.and_true]
def qsC [DecidableEq α] [DecidableEq β] {S : Rps β} (q : Qd R) (q' : Qds S) : Qds (rsC R S) where
  dat x := q.dat x.1 :: q'.dat x.2
  dp {K G v x} h := by
    obtain ⟨u, r, e, h, t⟩ := h
    subst e
    exact .cons (q.dp h) (q'.dp t)
  lay x := by simp only [PyData.canLayAll0, q.lay, q'.lay, Bool.and_self]
  dep := max q.dep q'.dep
  dle x := by
    simp only [PyData.depthAll]
    exact Nat.max_le.mpr ⟨Nat.le_trans (q.dle x.1) (Nat.le_max_left _ _), Nat.le_trans (q'.dle x.2) (Nat.le_max_right _ _)⟩
  eqv x y := by
    simp only [PyData.eqvAll, q.eqv, q'.eqv]
    rw [← Bool.decide_and]
    exact decide_eq_decide.mpr ⟨fun e => Prod.ext e.1 e.2, fun e => by rw [e]; exact ⟨rfl, rfl⟩⟩
def qP [DecidableEq α] {S : Rps α} (q : Qds S) : Qd (rP S) where
  dat x := .tuple (q.dat x)
  dp {K G v x} h := by
    obtain ⟨p, vs, e, h, r⟩ := h
    subst e
    exact .tup h (q.dp r)
  lay x := by rw [PyData.canLay0]; exact q.lay x
  dep := q.dep + 1
  dle x := by rw [PyData.depth]; exact Nat.succ_le_succ (q.dle x)
  eqv x y := by rw [PyData.eqv]; exact q.eqv x y
  nn := true
  nnd _ _ h := nomatch h
mutual
theorem Dp.same {G G' : Hp} (e : Same G G') : ∀ {v : V} {d : PyData}, Dp K G v d → Dp K G' v d
  | _, _, .non => .non
  | _, _, .bl b => .bl b
  | _, _, .int b => .int b
  | _, _, .str b => .str b
  | _, _, .lst h t => .lst (same_l e h) (Dp.sameAll e t)
  | _, _, .tup h t => .tup (same_t e h) (Dp.sameAll e t)
theorem Dp.sameAll {G G' : Hp} (e : Same G G') : ∀ {v : List V} {d : List PyData}, DpAll K G v d → DpAll K G' v d
  | _, _, .nil => .nil
  | _, _, .cons h t => .cons (Dp.same e h) (Dp.sameAll e t)
end
theorem Qd.shaped [DecidableEq α] (q : Qd R) (h : q.dep ≤ 64) (x : α) : SeqAt.shaped (q.dat x) = true := by
  simp only [SeqAt.shaped, q.lay, Bool.true_and]
  exact decide_eq_true (Nat.le_trans (q.dle x) h)
theorem e_eqD [DecidableEq α] (q : Qd R) (hd : q.dep ≤ 64) {n : Res α} (ha : EvE K fm ta σ G O R m) (hb : EvE K fm tb σ G O R n) : EvE K fm (tOp (rEqD K) ta tb) σ G O rB (eqM m n) :=
  e_op ha hb fun G1 H1 x y u v k ru rv Q h => ⟨_, _, Dp.same k.gh (q.dp ru), Dp.same k.gh (q.dp rv), q.shaped hd _, q.shaped hd _, h _ G1 H1 (Stp.refl k.gh) (by show V.bl _ = V.bl _; rw [q.eqv])⟩
theorem e_neD [DecidableEq α] (q : Qd R) (hd : q.dep ≤ 64) {n : Res α} (ha : EvE K fm ta σ G O R m) (hb : EvE K fm tb σ G O R n) : EvE K fm (tOp (rNeD K) ta tb) σ G O rB (neM m n) :=
  e_op ha hb fun G1 H1 x y u v k ru rv Q h => ⟨_, _, Dp.same k.gh (q.dp ru), Dp.same k.gh (q.dp rv), q.shaped hd _, q.shaped hd _, h _ G1 H1 (Stp.refl k.gh) (by show V.bl _ = V.bl _; rw [q.eqv])⟩

/-! ### in -/
def inM {α : Type} [DecidableEq α] : Res α → Res (List α) → Res Bool := Res.bind2 fun x xs => .ok (decide (x ∈ xs))
def ninM {α : Type} [DecidableEq α] : Res α → Res (List α) → Res Bool := Res.bind2 fun x xs => .ok (!decide (x ∈ xs))
@[simp] theorem inM_ok {α : Type} [DecidableEq α] (x : α) (xs) : inM (.ok x) (.ok xs) = .ok (decide (x ∈ xs)) := rfl
@[simp] theorem ninM_ok {α : Type} [DecidableEq α] (x : α) (xs) : ninM (.ok x) (.ok xs) = .ok (!decide (x ∈ xs)) := rfl
theorem sr_vals [DecidableEq α] (s : Sr R) {vs : List V} {xs : List α} (h : RLs R K G vs xs) : vs = xs.map s.enc := by
  induction h with
  | nil => rfl
  | cons r t ih => rw [ih, s.is r]; rfl
theorem sr_all [DecidableEq α] (s : Sr R) (xs : List α) : (xs.map s.enc).all flatV = true := by
  rw [List.all_eq_true]
  intro y hy
  obtain ⟨x, _, e⟩ := List.mem_map.mp hy
  rw [← e]; exact s.fl x
theorem sr_in [DecidableEq α] (s : Sr R) (x : α) : ∀ xs : List α, inV (s.enc x) (xs.map s.enc) = decide (x ∈ xs)
  | [] => by simp [inV]
  | y :: xs => by
    have ih := sr_in s x xs
    unfold inV at ih ⊢
    rw [List.map_cons, List.any_cons, ih, s.eq, ← Bool.decide_or]
    exact decide_eq_decide.mpr (by rw [List.mem_cons]; exact ⟨fun h => h.imp (fun e => e.symm) id, fun h => h.imp (fun e => e.symm) id⟩)
/-- what a list or tuple reads as -/
def Sq (K : PySem.W.Frag) (C : Rp (List α)) (R : Rp α) : Prop := ∀ G v xs, C.r K G v xs → ∃ p vs, v = .ref p ∧ (SqL K G p vs ∨ SqT K G p vs) ∧ RLs R K G vs xs
theorem sq_L : Sq K (rL R) R := fun G v xs ⟨p, vs, a, b, c⟩ => ⟨p, vs, a, .inl b, c⟩
theorem sq_T : Sq K (rT R) R := fun G v xs ⟨p, vs, a, b, c⟩ => ⟨p, vs, a, .inr b, c⟩
theorem same_q {H H' : Hp} {a : Addr} {xs : List V} (e : Same H H') (h : SqL K H a xs ∨ SqT K H a xs) : SqL K H' a xs ∨ SqT K H' a xs := h.imp (same_l e) (same_t e)
theorem e_in [DecidableEq α] (s : Sr R) {C : Rp (List α)} (c : Sq K C R) {n : Res (List α)} (ha : EvE K fm ta σ G O R m) (hb : EvE K fm tb σ G O C n) : EvE K fm (tOp (rIn K false) ta tb) σ G O rB (inM m n) :=
  e_op ha hb fun G1 H1 x y u v k ru rv Q q => by
    obtain ⟨p, vs, e, h, r⟩ := c _ _ _ rv
    subst e
    cases s.is ru; cases sr_vals s r
    exact ⟨p, _, rfl, same_q k.gh h, s.fl x, sr_all s y, q _ G1 H1 (Stp.refl k.gh) (by
      show V.bl (if false = true then _ else _) = V.bl _
      rw [if_neg Bool.false_ne_true, sr_in])⟩
theorem e_nin [DecidableEq α] (s : Sr R) {C : Rp (List α)} (c : Sq K C R) {n : Res (List α)} (ha : EvE K fm ta σ G O R m) (hb : EvE K fm tb σ G O C n) : EvE K fm (tOp (rIn K true) ta tb) σ G O rB (ninM m n) :=
  e_op ha hb fun G1 H1 x y u v k ru rv Q q => by
    obtain ⟨p, vs, e, h, r⟩ := c _ _ _ rv
    subst e
    cases s.is ru; cases sr_vals s r
    exact ⟨p, _, rfl, same_q k.gh h, s.fl x, sr_all s y, q _ G1 H1 (Stp.refl k.gh) (by
      show V.bl (if true = true then _ else _) = V.bl _
      rw [if_pos rfl, sr_in])⟩

/-! ### items -/
def optM {α : Type} : Option α → Res α
  | some a => .ok a
  | none => .stuck
@[simp] theorem optM_some {α : Type} (a : α) : optM (some a) = .ok a := rfl
def idxM {α : Type} : Res (List α) → Res Int → Res α := Res.bind2 fun xs i => optM (atI xs i)
@[simp] theorem idxM_ok {α : Type} (xs : List α) (i : Int) : idxM (.ok xs) (.ok i) = optM (atI xs i) := rfl
theorem paired_at {F : α → β → Prop} {xs : List α} {ys : List β} (h : Paired F xs ys) {i : Int} {y : β} (e : atI ys i = some y) : ∃ x, atI xs i = some x ∧ F x y := by
  unfold atI at e ⊢
  rw [Paired.length h]
  cases q : ixN ys.length i with
  | none => rw [q] at e; cases e
  | some j =>
    rw [q] at e
    exact paired_get' h e
theorem e_ixL {m : Res (List α)} {n : Res Int} (ha : EvE K fm ta σ G O (rL R) m) (hb : EvE K fm tb σ G O zI n) : EvE K fm (tOp (rIxL K) ta tb) σ G O R (idxM m n) :=
  e_op ha hb fun G1 H1 xs i u v k ru rv Q q => by
    obtain ⟨p, vs, e, h, r⟩ := ru
    subst e
    cases (show v = .int i from rv)
    cases ea : atI xs i with
    | none => rw [ea] at q; exact q.elim
    | some y =>
      rw [ea] at q
      obtain ⟨w, ew, rw'⟩ := paired_at r ea
      exact ⟨p, vs, i, w, rfl, rfl, same_l k.gh h, ew, q w G1 H1 (Stp.refl k.gh) rw'⟩
theorem e_ixT {m : Res (List α)} {n : Res Int} (ha : EvE K fm ta σ G O (rT R) m) (hb : EvE K fm tb σ G O zI n) : EvE K fm (tOp (rIxT K) ta tb) σ G O R (idxM m n) :=
  e_op ha hb fun G1 H1 xs i u v k ru rv Q q => by
    obtain ⟨p, vs, e, h, r⟩ := ru
    subst e
    cases (show v = .int i from rv)
    cases ea : atI xs i with
    | none => rw [ea] at q; exact q.elim
    | some y =>
      rw [ea] at q
      obtain ⟨w, ew, rw'⟩ := paired_at r ea
      exact ⟨p, vs, i, w, rfl, rfl, same_t k.gh h, ew, q w G1 H1 (Stp.refl k.gh) rw'⟩
/-- an item of a tuple of a fixed length -/
def Pj {α β : Type} (S : Rps α) (k : Nat) (R : Rp β) (f : α → β) : Prop := ∀ K G vs a, S.r K G vs a → ∃ v, vs[k]? = some v ∧ R.r K G v (f a)
theorem pj1 : Pj (rs1 R) 0 R (fun a => a) := fun K G vs a ⟨v, e, h⟩ => ⟨v, by rw [e]; rfl, h⟩
theorem pj0 {S : Rps β} : Pj (rsC R S) 0 R (fun a => a.1) := fun K G vs a ⟨v, r, e, h, t⟩ => ⟨v, by rw [e]; rfl, h⟩
theorem pjS {S : Rps β} {k : Nat} {f : β → γ} (h : Pj S k T f) : Pj (rsC R S) (k + 1) T (fun a => f a.2) := fun K G vs a ⟨v, r, e, _, t⟩ => by
  obtain ⟨w, ew, hw⟩ := h K G r a.2 t
  exact ⟨w, by rw [e]; simpa using ew, hw⟩
theorem e_proj {S : Rps α} {k : Nat} {f : α → β} {R : Rp β} (hp : Pj S k R f) (ha : EvE K fm ta σ G O (rP S) m) : EvE K fm (tOp (rIxT K) ta (tC (.int (k : Int)))) σ G O R (m.bind fun a => .ok (f a)) := fun G1 H1 e k' Q q =>
  ha G1 H1 e k' _ (Res.wp_mono (Res.wp_bind q) (fun x q v G2 H2 s r => by
    obtain ⟨p, vs, ev, h, rs⟩ := r
    obtain ⟨w, ew, hw⟩ := hp K G2 vs x rs
    exact ⟨p, vs, (k : Int), w, ev, rfl, same_t s.gh h, L2.atI_nat ew, q w G2 H2 s hw⟩) fun _ _ z => z)

/-! ### argument lists, displays -/
def pairM {α β : Type} : Res α → Res β → Res (α × β) := Res.bind2 fun x y => .ok (x, y)
@[simp] theorem pairM_ok {α β : Type} (x : α) (y : β) : pairM (.ok x) (.ok y) = .ok (x, y) := rfl
theorem a_one (h : EvE K fm te σ G O R m) : EvA K fm (tCons te tNil) σ G O (rs1 R) m := fun G1 H1 e k Q q =>
  h G1 H1 e k _ (Res.wp_mono q (fun x f v G2 H2 s r => f [v] G2 H2 s ⟨v, rfl, r⟩) fun _ _ z => z)
theorem a_cons {S : Rps β} {tr : TA} (h : EvE K fm te σ G O R m) (hr : EvA K fm tr σ G O S n) : EvA K fm (tCons te tr) σ G O (rsC R S) (pairM m n) := fun G1 H1 e k Q q =>
  h G1 H1 e k _ (Res.wp_mono (Res.wp_bind q) (fun x q v G2 H2 s r =>
    hr G2 H2 (e.trans s.gg) (k.stp s) _ (Res.wp_mono (Res.wp_bind q) (fun y q vs G3 H3 s' r' => q (v :: vs) G3 H3 (s.trans s') ⟨v, vs, rfl, R.mono s'.gg r, r'⟩) fun _ _ z => z)) fun _ _ z => z)
/-- n items of one kind -/
def rsL {α : Type} (n : Nat) (R : Rp α) : Rps (List α) := ⟨fun K G vs xs => RLs R K G vs xs ∧ vs.length = n, fun e ⟨a, b⟩ => ⟨a.mono e, b⟩⟩
def consM {α : Type} : Res α → Res (List α) → Res (List α) := Res.bind2 fun x xs => .ok (x :: xs)
@[simp] theorem consM_ok {α : Type} (x : α) (xs) : consM (.ok x) (.ok xs) = .ok (x :: xs) := rfl
theorem l_nil : EvA K fm tNil σ G O (rsL 0 R) (.ok []) := fun G1 H1 e k Q q => q [] G1 H1 (Stp.refl k.gh) ⟨.nil, rfl⟩
theorem l_cons {tr : TA} {i : Nat} {n : Res (List α)} (h : EvE K fm te σ G O R m) (hr : EvA K fm tr σ G O (rsL i R) n) : EvA K fm (tCons te tr) σ G O (rsL (i + 1) R) (consM m n) := fun G1 H1 e k Q q =>
  h G1 H1 e k _ (Res.wp_mono (Res.wp_bind q) (fun x q v G2 H2 s r =>
    hr G2 H2 (e.trans s.gg) (k.stp s) _ (Res.wp_mono (Res.wp_bind q) (fun y q vs G3 H3 s' r' => q (v :: vs) G3 H3 (s.trans s') ⟨.cons (R.mono s'.gg r) r'.1, by rw [List.length_cons, r'.2]⟩) fun _ _ z => z)) fun _ _ z => z)
theorem e_lst {t : TA} {i : Nat} {n : Res (List α)} (h : EvA K fm t σ G O (rsL i R) n) (hi : i ≤ sizeLine) : EvN K fm (tLst t) σ G O R n := fun G1 H1 e k Q q =>
  h G1 H1 e k _ (Res.wp_mono q (fun xs f vs G2 H2 s r => ⟨by rw [r.2]; exact hi, fun p hp =>
    f p vs G2 (upd H2 p (.lst vs)) (s.trans (Stp.grow s.gh (same_new hp))) (same_back s.hh hp) (same_back s.gh hp) upd_same r.1⟩) fun _ _ z => z)
/-- how many values a list has -/
def Ln {α : Type} (S : Rps α) (n : Nat) : Prop := ∀ K G vs a, S.r K G vs a → vs.length = n
theorem ln1 : Ln (rs1 R) 1 := fun K G vs a ⟨v, e, _⟩ => by rw [e]; rfl
theorem lnC {S : Rps β} {n : Nat} (h : Ln S n) : Ln (rsC R S) (n + 1) := fun K G vs a ⟨v, r, e, _, t⟩ => by rw [e, List.length_cons, h K G r a.2 t]
theorem e_tup {S : Rps α} {t : TA} {i : Nat} (l : Ln S i) (h : EvA K fm t σ G O S m) (hi : i ≤ sizeLine) : EvE K fm (tTup t) σ G O (rP S) m := fun G1 H1 e k Q q =>
  h G1 H1 e k _ (Res.wp_mono q (fun x f vs G2 H2 s r => ⟨by rw [l K G2 vs x r]; exact hi, fun p hp =>
    f (.ref p) (upd G2 p (.tup vs)) (upd H2 p (.tup vs)) (s.trans (Stp.new s.gh hp)) ⟨p, vs, rfl, .inl (.inl upd_same), S.mono (same_new (same_back s.gh hp)) r⟩⟩) fun _ _ z => z)
/-- a display of a tuple whose items are of one kind -/
theorem e_tupT {t : TA} {i : Nat} {n : Res (List α)} (h : EvA K fm t σ G O (rsL i R) n) (hi : i ≤ sizeLine) : EvE K fm (tTup t) σ G O (rT R) n := fun G1 H1 e k Q q =>
  h G1 H1 e k _ (Res.wp_mono q (fun x f vs G2 H2 s r => ⟨by rw [r.2]; exact hi, fun p hp =>
    f (.ref p) (upd G2 p (.tup vs)) (upd H2 p (.tup vs)) (s.trans (Stp.new s.gh hp)) ⟨p, vs, rfl, .inl (.inl upd_same), r.1.mono (same_new (same_back s.gh hp))⟩⟩) fun _ _ z => z)

/-! ### calls of defs -/
/-- what a def promises: the representation of its arguments, of its answer, its mirror -/
def spP {α β : Type} (K : PySem.W.Frag) (cl : Nat → Addr) (S : Rps α) (R : Rp β) (f : α → Res β) : Sp := fun vs H Q E => ∃ G a, Same G H ∧ S.r K G vs a ∧
  Wp (f a) (fun y => ∀ v G' H', Stp G H G' H' → R.r K G' v y → Q v H') (fun c fs => ∀ H' d, Same H H' → XdOk fs d H' → E (.ref (cl c)) d H')
theorem e_call {S : Rps α} {f : α → Res β} {R : Rp β} {t : TA} (h : EvA K fm t σ G O S m) : EvE K fm (tCall (spP K fm.cl S R f) [] fm.E t) σ G O R (m.bind f) := fun G1 H1 e k Q q =>
  h G1 H1 e k _ (Res.wp_mono (Res.wp_bind q) (fun x q vs G2 H2 s r => ⟨G2, x, s.gh, by rw [List.append_nil]; exact r,
    .mk (Res.wp_mono q (fun y q v G3 H3 s' rv => q v G3 H3 (s.trans s') rv) fun c fs z H' d a b => z H' d ((k.stp s).fr.trans a) b)⟩) fun _ _ z => z)
/-- a call where no exception may leave -/
theorem e_call0 {S : Rps α} {f : α → Res β} {R : Rp β} {t : TA} (h : EvA K fm t σ G O S m) : EvE K fm (tCall (spP K fm.cl S R f) [] E0 t) σ G O R (m.bind fun a => (f a).nox) := fun G1 H1 e k Q q =>
  h G1 H1 e k _ (Res.wp_mono (Res.wp_bind q) (fun x q vs G2 H2 s r => ⟨G2, x, s.gh, by rw [List.append_nil]; exact r,
    .mk (Res.wp_mono (Res.wp_nox (E' := fun _ _ => False) q) (fun y q v G3 H3 s' rv => q v G3 H3 (s.trans s') rv) fun c fs z => z.elim)⟩) fun _ _ z => z)

/-! ### built-ins -/
theorem e_cb {S : Rps α} {r : List V → Hp → VK → Prop} {f : α → Res γ} {t : TA} (h : EvA K fm t σ G O S m)
    (hr : ∀ G1 H1 x vs, Kn fm G1 O H1 → S.r K G1 vs x → ∀ Q : VK, (f x).wp (fun z => ∀ w G2 H2, Stp G1 H1 G2 H2 → T.r K G2 w z → Q w H2) fm.xw → r vs H1 Q) : EvE K fm (tCB r t) σ G O T (m.bind f) := fun G1 H1 e k Q q =>
  h G1 H1 e k _ (Res.wp_mono (Res.wp_bind q) (fun x q vs G2 H2 s rs =>
    hr G2 H2 x vs (k.stp s) rs Q (Res.wp_mono q (fun z q w G4 H4 s'' rw => q w G4 H4 (s.trans s'') rw) fun _ _ z => z)) fun _ _ z => z)
theorem n_cb {S : Rps α} {r : List V → Hp → VK → Prop} {f : α → Res (List γ)} {t : TA} (h : EvA K fm t σ G O S m)
    (hr : ∀ G1 H1 x vs, Kn fm G1 O H1 → S.r K G1 vs x → ∀ Q : VK, (f x).wp (fun xs => ∀ p vs G2 H2, Stp G1 H1 G2 H2 → H1 p = none → G2 p = none → H2 p = some (.lst vs) → RLs T K G2 vs xs → Q (.ref p) H2) fm.xw → r vs H1 Q) : EvN K fm (tCB r t) σ G O T (m.bind f) := fun G1 H1 e k Q q =>
  h G1 H1 e k _ (Res.wp_mono (Res.wp_bind q) (fun x q vs G2 H2 s rs =>
    hr G2 H2 x vs (k.stp s) rs Q (Res.wp_mono q (fun z q p w G4 H4 s'' hp gp hl rw => q p w G4 H4 (s.trans s'') (same_back s.hh hp) gp hl rw) fun _ _ z => z)) fun _ _ z => z)
abbrev rLen (K : PySem.W.Frag) : List V → Hp → VK → Prop := fun xs H Q => ∃ x n, xs = [x] ∧ LenV K x H n ∧ Q (.int n) H
def lenM {α : Type} (a : Res (List α)) : Res Int := a.bind fun xs => .ok (xs.length : Int)
@[simp] theorem lenM_ok {α : Type} (xs : List α) : lenM (.ok xs) = .ok (xs.length : Int) := rfl
theorem e_len {C : Rp (List α)} (c : Sq K C R) {m : Res (List α)} (h : EvE K fm te σ G O C m) : EvE K fm (tCB (rLen K) (tCons te tNil)) σ G O zI (lenM m) :=
  e_cb (a_one h) fun G1 H1 x vs k ⟨v, ev, r⟩ Q q => by
    subst ev
    obtain ⟨p, vs, e, h, r'⟩ := c _ _ _ r
    subst e
    refine ⟨_, x.length, rfl, ?_, q _ G1 H1 (Stp.refl k.gh) rfl⟩
    rw [← Paired.length r']
    exact h.imp (fun h => ⟨vs, same_l k.gh h, rfl⟩) fun h => ⟨vs, same_t k.gh h, rfl⟩
/-- the length of a fixed tuple -/
theorem e_lenP {S : Rps α} {i : Nat} (l : Ln S i) (h : EvE K fm te σ G O (rP S) m) : EvE K fm (tCB (rLen K) (tCons te tNil)) σ G O zI (m.bind fun _ => .ok (i : Int)) :=
  e_cb (a_one h) fun G1 H1 x vs k ⟨v, ev, p, ws, e, h, r⟩ Q q => by
    subst ev; subst e
    refine ⟨_, i, rfl, ?_, q _ G1 H1 (Stp.refl k.gh) rfl⟩
    rw [← l _ _ _ _ r]
    exact .inr ⟨ws, same_t k.gh h, rfl⟩
/-- list(..) -/
abbrev rLi (K : PySem.W.Frag) : List V → Hp → VK → Prop := fun xs H Q => ∃ p ys, xs = [.ref p] ∧ (SqL K H p ys ∨ SqT K H p ys) ∧ ∀ l, H l = none → Q (.ref l) (upd H l (.lst ys))
theorem n_list {C : Rp (List α)} (c : Sq K C R) {m : Res (List α)} (h : EvE K fm te σ G O C m) : EvN K fm (tCB (rLi K) (tCons te tNil)) σ G O R (m.bind .ok) :=
  n_cb (a_one h) fun G1 H1 x vs k ⟨v, ev, r⟩ Q q => by
    subst ev
    obtain ⟨p, vs, e, h, r'⟩ := c _ _ _ r
    subst e
    exact ⟨p, vs, rfl, same_q k.gh h, fun l hl => q l vs G1 _ (Stp.grow k.gh (same_new hl)) hl (same_back k.gh hl) upd_same r'⟩
/-- tuple(list) -/
abbrev rTu (K : PySem.W.Frag) : List V → Hp → VK → Prop := fun xs H Q => ∃ p ys, xs = [.ref p] ∧ ((SqL K H p ys ∧ ∀ l, H l = none → Q (.ref l) (upd H l (.tup ys))) ∨ (SqT K H p ys ∧ Q (.ref p) H))
theorem e_tupleL {m : Res (List α)} (h : EvE K fm te σ G O (rL R) m) : EvE K fm (tCB (rTu K) (tCons te tNil)) σ G O (rT R) (m.bind .ok) :=
  e_cb (a_one h) fun G1 H1 x vs k ⟨v, ev, r⟩ Q q => by
    subst ev
    obtain ⟨p, vs, e, h, r⟩ := r
    subst e
    exact ⟨p, vs, rfl, .inl ⟨same_l k.gh h, fun l hl => q _ _ _ (Stp.new k.gh hl) ⟨l, vs, rfl, .inl (.inl upd_same), r.mono (same_new (same_back k.gh hl))⟩⟩⟩
/-- int(n), int(flag) -/
abbrev rInt : List V → Hp → VK → Prop := fun xs H Q => (∃ i, xs = [.int i] ∧ Q (.int i) H) ∨ ∃ k, xs = [.bl k] ∧ Q (.int (if k then 1 else 0)) H
theorem e_intI {a : Res Int} (h : EvE K fm te σ G O zI a) : EvE K fm (tCB rInt (tCons te tNil)) σ G O zI (a.bind .ok) :=
  e_cb (a_one h) fun G1 H1 x vs k ⟨v, ev, r⟩ Q q => by
    subst ev; cases (show v = .int x from r)
    exact .inl ⟨x, rfl, q _ G1 H1 (Stp.refl k.gh) rfl⟩
def b2iM (a : Res Bool) : Res Int := a.bind fun b => .ok (if b then 1 else 0)
@[simp] theorem b2iM_ok (b : Bool) : b2iM (.ok b) = .ok (if b then 1 else 0) := rfl
theorem e_intB {a : Res Bool} (h : EvE K fm te σ G O rB a) : EvE K fm (tCB rInt (tCons te tNil)) σ G O zI (b2iM a) :=
  e_cb (a_one h) fun G1 H1 x vs k ⟨v, ev, r⟩ Q q => by
    subst ev; cases (show v = .bl x from r)
    exact .inr ⟨x, rfl, q _ G1 H1 (Stp.refl k.gh) rfl⟩
theorem rls_enc {enc : α → V} (h : ∀ {K G v x}, R.r K G v x → v = enc x) {vs : List V} {xs : List α} (r : RLs R K G vs xs) : vs = xs.map enc := by
  induction r with
  | nil => rfl
  | cons r t ih => rw [ih, h r]; rfl
def sumM (a : Res (List Int)) : Res Int := a.bind fun xs => .ok xs.sum
@[simp] theorem sumM_ok (xs) : sumM (.ok xs) = .ok xs.sum := rfl
theorem e_sum {m : Res (List Int)} (h : EvE K fm te σ G O (rL zI) m) : EvE K fm (tCB (rSum K) (tCons te tNil)) σ G O zI (sumM m) :=
  e_cb (a_one h) fun G1 H1 x vs k ⟨v, ev, p, ws, e, h, r⟩ Q q => by
    subst ev; subst e
    cases rls_enc (R := zI) (enc := V.int) (fun h => h) r
    exact ⟨p, x, rfl, same_l k.gh h, q _ G1 H1 (Stp.refl k.gh) rfl⟩
def anyM (a : Res (List Bool)) : Res Bool := a.bind fun xs => .ok (xs.any id)
def allM (a : Res (List Bool)) : Res Bool := a.bind fun xs => .ok (xs.all id)
@[simp] theorem anyM_ok (xs) : anyM (.ok xs) = .ok (xs.any id) := rfl
@[simp] theorem allM_ok (xs) : allM (.ok xs) = .ok (xs.all id) := rfl
theorem e_any {m : Res (List Bool)} (h : EvE K fm te σ G O (rL rB) m) : EvE K fm (tCB (rAny K) (tCons te tNil)) σ G O rB (anyM m) :=
  e_cb (a_one h) fun G1 H1 x vs k ⟨v, ev, p, ws, e, h, r⟩ Q q => by
    subst ev; subst e
    cases rls_enc (R := rB) (enc := V.bl) (fun h => h) r
    exact ⟨p, x, rfl, same_l k.gh h, q _ G1 H1 (Stp.refl k.gh) rfl⟩
theorem e_all {m : Res (List Bool)} (h : EvE K fm te σ G O (rL rB) m) : EvE K fm (tCB (rAll K) (tCons te tNil)) σ G O rB (allM m) :=
  e_cb (a_one h) fun G1 H1 x vs k ⟨v, ev, p, ws, e, h, r⟩ Q q => by
    subst ev; subst e
    cases rls_enc (R := rB) (enc := V.bl) (fun h => h) r
    exact ⟨p, x, rfl, same_l k.gh h, q _ G1 H1 (Stp.refl k.gh) rfl⟩

/-! ### lists: +, *, slices -/
def cutL {α : Type} (xs : List α) (lo hi : Option Int) : List α := (xs.drop (HT.sIx xs.length 0 lo)).take (HT.sIx xs.length xs.length hi - HT.sIx xs.length 0 lo)
theorem paired_cut {F : V → β → Prop} {vs : List V} {xs : List β} (h : Paired F vs xs) (lo hi : Option Int) : Paired F (cutV vs lo hi) (cutL xs lo hi) := by
  unfold cutV cutL
  rw [Paired.length h]
  exact paired_take _ (paired_drop _ h)
def EvO (fm : Fm) (to : TO) (σ : L2.St) (G : Hp) (O : Own) (m : Res (Option Int)) : Prop :=
  ∀ G1 H1, Same G G1 → Kn fm G1 O H1 → ∀ Q : Option Int → Hp → Prop, m.wp (fun x => ∀ G2 H2, Stp G1 H1 G2 H2 → Q x H2) fm.xw → to σ H1 Q
theorem o_none : EvO fm tNoPart σ G O (.ok none) := fun G1 H1 e k Q q => q G1 H1 (Stp.refl k.gh)
theorem o_some {a : Res Int} (h : EvE K fm te σ G O zI a) : EvO fm (tPart te) σ G O (someM a) := fun G1 H1 e k Q q =>
  h G1 H1 e k _ (Res.wp_mono (Res.wp_bind q) (fun x q v G2 H2 s r => ⟨x, r, q G2 H2 s⟩) fun _ _ z => z)
def sliceM {α : Type} (m : Res (List α)) (lo hi : Res (Option Int)) : Res (List α) := m.bind fun xs => lo.bind fun l => hi.bind fun h => .ok (cutL xs l h)
@[simp] theorem sliceM_ok {α : Type} (xs : List α) (l h) : sliceM (.ok xs) (.ok l) (.ok h) = .ok (cutL xs l h) := rfl
theorem n_slice {tl th : TO} {m : Res (List α)} {lo hi : Res (Option Int)} (h : EvE K fm te σ G O (rL R) m) (h1 : EvO fm tl σ G O lo) (h2 : EvO fm th σ G O hi) : EvN K fm (tSl (rSlL K) te tl th) σ G O R (sliceM m lo hi) := fun G1 H1 e k Q q =>
  h G1 H1 e k _ (Res.wp_mono (Res.wp_bind q) (fun xs q v G2 H2 s r =>
    h1 G2 H2 (e.trans s.gg) (k.stp s) _ (Res.wp_mono (Res.wp_bind q) (fun l q G3 H3 s' =>
      h2 G3 H3 ((e.trans s.gg).trans s'.gg) ((k.stp s).stp s') _ (Res.wp_mono (Res.wp_bind q) (fun hh q G4 H4 s'' => by
        obtain ⟨p, vs, ev, hq, rs⟩ := r
        have ss := (s.trans s').trans s''
        exact ⟨p, vs, ev, same_l ((s'.gg.trans s''.gg).trans ss.gh) hq, fun p' hp => q p' _ G4 _ (ss.trans (Stp.grow ss.gh (same_new hp))) (same_back ss.hh hp) (same_back ss.gh hp) upd_same (paired_cut (rs.mono (s'.gg.trans s''.gg)) _ _)⟩) fun _ _ z => z)) fun _ _ z => z)) fun _ _ z => z)
/-- a list that is one's own to write or was told to the ghost: rCat wants the tracked object itself -/
def rK {α : Type} (R : Rp α) : Rp (List α) := ⟨fun K G v xs => ∃ p vs, v = .ref p ∧ G p = some (.lst vs) ∧ RLs R K G vs xs, fun e ⟨p, vs, a, b, c⟩ => ⟨p, vs, a, e _ _ b, c.mono e⟩⟩
theorem rK_rL {v : V} {xs : List α} (h : (rK R).r K G v xs) : (rL R).r K G v xs := by
  obtain ⟨p, vs, a, b, c⟩ := h
  exact ⟨p, vs, a, .inl (.inl b), c⟩
theorem e_KL {m : Res (List α)} (h : EvE K fm te σ G O (rK R) m) : EvE K fm te σ G O (rL R) m := fun G1 H1 e k Q q =>
  h G1 H1 e k Q (Res.wp_mono q (fun xs q v G2 H2 s r => q v G2 H2 s (rK_rL r)) fun _ _ z => z)
theorem sq_K : Sq K (rK R) R := fun G v xs h => sq_L _ _ _ (rK_rL h)
theorem nn_K : Nn (rK R) := fun _ _ v x ⟨p, vs, h, _⟩ => by cases h; simp
theorem EvN.evK {m : Res (List α)} (h : EvN K fm te σ G O R m) : EvE K fm te σ G O (rK R) m := fun G1 H1 a k Q q =>
  h G1 H1 a k Q (Res.wp_mono q (fun xs f p vs G2 H2 s hp gp hl r =>
    f (.ref p) (upd G2 p (.lst vs)) H2 ⟨s.hh, s.gg.trans (same_new gp), same_updG s.gh hl, fun b o e => by
        rw [upd_ne (ne_of_none e hp)]; exact s.old b o e⟩
      ⟨p, vs, rfl, upd_same, r.mono (same_new gp)⟩) fun _ _ x => x)
def lim : Nat := 16777216
theorem lim_eq : lim = sizeLine := by rw [sizeLine_eq]; rfl
def catF {α : Type} (xs ys : List α) : Res (List α) := if xs.length + ys.length ≤ lim then .ok (xs ++ ys) else .stuck
def catM {α : Type} : Res (List α) → Res (List α) → Res (List α) := Res.bind2 catF
theorem n_cat {m n : Res (List α)} (ha : EvE K fm ta σ G O (rK R) m) (hb : EvE K fm tb σ G O (rK R) n) : EvN K fm (tOp rCat ta tb) σ G O R (catM m n) := fun G1 H1 e k Q q =>
  ha G1 H1 e k _ (Res.wp_mono (Res.wp_bind q) (fun x q u G2 H2 s ru =>
    hb G2 H2 (e.trans s.gg) (k.stp s) _ (Res.wp_mono (Res.wp_bind q) (fun y q v G3 H3 s' rv => by
      obtain ⟨p, vs, e1, h1, r1⟩ := ru
      obtain ⟨p', vs', e2, h2, r2⟩ := rv
      by_cases hl : x.length + y.length ≤ lim
      · rw [catF, if_pos hl] at q
        exact ⟨p, p', vs, vs', e1, e2, (s.trans s').gh _ _ (s'.gg _ _ h1), s'.gh _ _ h2, by rw [Paired.length r1, Paired.length r2, ← lim_eq]; exact hl, fun l hl =>
          q l _ G3 _ ((s.trans s').trans (Stp.grow s'.gh (same_new hl))) (same_back (s.trans s').hh hl) (same_back s'.gh hl) upd_same (paired_app (r1.mono s'.gg) r2)⟩
      · rw [catF, if_neg hl] at q; exact q.elim) fun _ _ z => z)) fun _ _ z => z)
theorem paired_rep {F : α → β → Prop} {xs : List α} {ys : List β} (h : Paired F xs ys) : ∀ k : Nat, Paired F (List.replicate k xs).flatten (List.replicate k ys).flatten
  | 0 => .nil
  | k + 1 => by
    rw [List.replicate_succ, List.replicate_succ, List.flatten_cons, List.flatten_cons]
    exact paired_app h (paired_rep h k)
def repF {α : Type} (xs : List α) (k : Int) : Res (List α) := if decide (-(2 ^ 63) ≤ k) && decide (k < 2 ^ 63) && decide (xs.length * k.toNat ≤ lim) then .ok (List.replicate k.toNat xs).flatten else .stuck
def repM {α : Type} : Res (List α) → Res Int → Res (List α) := Res.bind2 repF
end
end Mw

namespace Mw
open PySem L2
section
variable {α β γ δ : Type} {K : PySem.W.Frag} {fm : Fm} {σ : L2.St} {G G' H : Hp} {O : Own}
variable {te ta tb tc : TE} {R : Rp α} {S : Rp β} {T : Rp γ} {m : Res α} {n : Res β} {t u : TT} {a b c : Res Bool}

/-! ### tests -/
theorem t_val (h : EvE K fm te σ G O rB a) : EvT fm (tB te) σ G O a := fun G1 H1 e k Q q =>
  h G1 H1 e k _ (Res.wp_mono q (fun x q v G2 H2 s r => ⟨x, r, q G2 H2 s⟩) fun _ _ z => z)
theorem t_test (h : EvE K fm te σ G O rB a) : EvT fm (tTest te) σ G O a := t_val h
def andM (a b : Res Bool) : Res Bool := a.bind fun k => if k = true then b else .ok false
def orM (a b : Res Bool) : Res Bool := a.bind fun k => if k = true then .ok true else b
def notM (a : Res Bool) : Res Bool := a.bind fun k => .ok (!k)
@[simp] theorem andM_ok (x : Bool) (b) : andM (.ok x) b = if x = true then b else .ok false := rfl
@[simp] theorem orM_ok (x : Bool) (b) : orM (.ok x) b = if x = true then .ok true else b := rfl
@[simp] theorem notM_ok (x : Bool) : notM (.ok x) = .ok (!x) := rfl
theorem t_and (h1 : EvT fm t σ G O a) (h2 : EvT fm u σ G O b) : EvT fm (tAnd t u) σ G O (andM a b) := fun G1 H1 e k Q q =>
  h1 G1 H1 e k _ (Res.wp_mono (Res.wp_bind q) (fun x q G2 H2 s => by
    cases x with
    | true => exact h2 G2 H2 (e.trans s.gg) (k.stp s) _ (Res.wp_mono q (fun y q G3 H3 s' => q G3 H3 (s.trans s')) fun _ _ z => z)
    | false => exact q G2 H2 s) fun _ _ z => z)
theorem t_or (h1 : EvT fm t σ G O a) (h2 : EvT fm u σ G O b) : EvT fm (tOr t u) σ G O (orM a b) := fun G1 H1 e k Q q =>
  h1 G1 H1 e k _ (Res.wp_mono (Res.wp_bind q) (fun x q G2 H2 s => by
    cases x with
    | false => exact h2 G2 H2 (e.trans s.gg) (k.stp s) _ (Res.wp_mono q (fun y q G3 H3 s' => q G3 H3 (s.trans s')) fun _ _ z => z)
    | true => exact q G2 H2 s) fun _ _ z => z)
theorem t_not (h1 : EvT fm t σ G O a) : EvT fm (tNot t) σ G O (notM a) := fun G1 H1 e k Q q =>
  h1 G1 H1 e k _ (Res.wp_mono (Res.wp_bind q) (fun x q G2 H2 s => q G2 H2 s) fun _ _ z => z)
theorem e_and (h1 : EvE K fm ta σ G O rB a) (h2 : EvE K fm tb σ G O rB b) : EvE K fm (tAndV ta tb) σ G O rB (andM a b) := fun G1 H1 e k Q q =>
  h1 G1 H1 e k _ (Res.wp_mono (Res.wp_bind q) (fun x q v G2 H2 s r => ⟨x, r, by
    cases x with
    | true => exact h2 G2 H2 (e.trans s.gg) (k.stp s) _ (Res.wp_mono q (fun y q v G3 H3 s' r => q v G3 H3 (s.trans s') r) fun _ _ z => z)
    | false => exact q _ G2 H2 s rfl⟩) fun _ _ z => z)
theorem e_or (h1 : EvE K fm ta σ G O rB a) (h2 : EvE K fm tb σ G O rB b) : EvE K fm (tOrV ta tb) σ G O rB (orM a b) := fun G1 H1 e k Q q =>
  h1 G1 H1 e k _ (Res.wp_mono (Res.wp_bind q) (fun x q v G2 H2 s r => ⟨x, r, by
    cases x with
    | false => exact h2 G2 H2 (e.trans s.gg) (k.stp s) _ (Res.wp_mono q (fun y q v G3 H3 s' r => q v G3 H3 (s.trans s') r) fun _ _ z => z)
    | true => exact q _ G2 H2 s rfl⟩) fun _ _ z => z)
theorem e_not (h1 : EvE K fm ta σ G O rB a) : EvE K fm (tNotV ta) σ G O rB (notM a) := fun G1 H1 e k Q q =>
  h1 G1 H1 e k _ (Res.wp_mono (Res.wp_bind q) (fun x q v G2 H2 s r => ⟨x, r, q _ G2 H2 s rfl⟩) fun _ _ z => z)
/-- a test by a value's truth -/
abbrev tTr (K : PySem.W.Frag) (ta : TE) : TT := fun σ H Q => ta σ H fun x H' => ∃ k, TruV K x H' k ∧ Q k H'
def truL {α : Type} (m : Res (List α)) : Res Bool := m.bind fun xs => .ok (!xs.isEmpty)
@[simp] theorem truL_ok {α : Type} (xs : List α) : truL (.ok xs) = .ok (!xs.isEmpty) := rfl
theorem paired_empty {F : α → β → Prop} {xs : List α} {ys : List β} (h : Paired F xs ys) : xs.isEmpty = ys.isEmpty := by cases h <;> rfl
theorem t_truL {m : Res (List α)} (h : EvE K fm te σ G O (rL R) m) : EvT fm (tTr K te) σ G O (truL m) := fun G1 H1 e k Q q =>
  h G1 H1 e k _ (Res.wp_mono (Res.wp_bind q) (fun x q v G2 H2 s ⟨p, vs, ev, hq, r⟩ => by
    subst ev
    exact ⟨_, .inl ⟨vs, same_l s.gh hq, rfl⟩, by rw [paired_empty r]; exact q G2 H2 s⟩) fun _ _ z => z)
def truI (a : Res Int) : Res Bool := a.bind fun i => .ok (i != 0)
theorem t_truI {a : Res Int} (h : EvE K fm te σ G O zI a) : EvT fm (tTr K te) σ G O (truI a) := fun G1 H1 e k Q q =>
  h G1 H1 e k _ (Res.wp_mono (Res.wp_bind q) (fun x q v G2 H2 s r => by
    cases (show v = .int x from r)
    exact ⟨_, rfl, q G2 H2 s⟩) fun _ _ z => z)
theorem e_ifExp {m n : Res α} (h : EvT fm t σ G O c) (h1 : EvE K fm ta σ G O R m) (h2 : EvE K fm tb σ G O R n) : EvE K fm (tIf t ta tb) σ G O R (Res.ite c m n) := fun G1 H1 e k Q q =>
  h G1 H1 e k _ (Res.wp_mono (Res.wp_bind q) (fun x q G2 H2 s => by
    cases x with
    | true => exact h1 G2 H2 (e.trans s.gg) (k.stp s) _ (Res.wp_mono q (fun y q v G3 H3 s' r => q v G3 H3 (s.trans s') r) fun _ _ z => z)
    | false => exact h2 G2 H2 (e.trans s.gg) (k.stp s) _ (Res.wp_mono q (fun y q v G3 H3 s' r => q v G3 H3 (s.trans s') r) fun _ _ z => z)) fun _ _ z => z)
/-- a < b < c of ints -/
def chainM (p p' : Int → Int → Bool) (a b c : Res Int) : Res Bool := a.bind fun x => b.bind fun y => if p x y = true then c.bind fun z => .ok (p' y z) else .ok false
theorem e_chain {p p' : Int → Int → Bool} {a b c : Res Int} (ha : EvE K fm ta σ G O zI a) (hb : EvE K fm tb σ G O zI b) (hc : EvE K fm tc σ G O zI c) :
    EvE K fm (tChain (L2.rI0 fun i j => .bl (p i j)) (L2.rI0 fun i j => .bl (p' i j)) ta tb tc) σ G O rB (chainM p p' a b c) := fun G1 H1 e k Q q =>
  ha G1 H1 e k _ (Res.wp_mono (Res.wp_bind q) (fun x q v G2 H2 s r =>
    hb G2 H2 (e.trans s.gg) (k.stp s) _ (Res.wp_mono (Res.wp_bind q) (fun y q w G3 H3 s' r' => ⟨x, y, r, r', p x y, rfl, by
      cases ep : p x y with
      | true =>
        rw [ep, if_pos rfl] at q
        refine iteT ?_
        exact hc G3 H3 ((e.trans s.gg).trans s'.gg) ((k.stp s).stp s') _ (Res.wp_mono (Res.wp_bind q) (fun z q w' G4 H4 s'' r'' => ⟨y, z, r', r'', q _ G4 H4 ((s.trans s').trans s'') rfl⟩) fun _ _ z => z)
      | false =>
        rw [ep, if_neg Bool.false_ne_true] at q
        refine iteF ?_
        exact q _ G3 H3 (s.trans s') rfl⟩) fun _ _ z => z)) fun _ _ z => z)

/-! ### what a loop walks -/
structure ItOk (K : PySem.W.Frag) (G : Hp) (Oi : Own) (R : Rp α) (J : It) (xs : List α) : Prop where
  go : ∀ i G1 H, Same G G1 → Same G1 H → (∀ p ∈ Oi, H p.1 = some p.2) → i < xs.length → J.go i H
  stop : ∀ G1 H, Same G G1 → Same G1 H → (∀ p ∈ Oi, H p.1 = some p.2) → J.stop xs.length H
  yld : ∀ i G1 H v H', Same G G1 → Same G1 H → (∀ p ∈ Oi, H p.1 = some p.2) → i < xs.length → J.yld i H v H' → ∃ x G', xs[i]? = some x ∧ Stp G1 H G' H' ∧ R.r K G' v x
def EvI (K : PySem.W.Frag) (fm : Fm) (ti : TI) (σ : L2.St) (G : Hp) (O : Own) (Oi : Own) (R : Rp α) (m : Res (List α)) : Prop :=
  ∀ G1 H1, Same G G1 → Kn fm G1 O H1 → ∀ Q : It → Hp → Prop, m.wp (fun xs => ∀ J G2 H2, Stp G1 H1 G2 H2 → ItOk K G2 Oi R J xs → Q J H2) fm.xw → ti σ H1 Q
theorem paired_lt {F : α → β → Prop} {xs : List α} {ys : List β} (h : Paired F xs ys) {i : Nat} (hi : i < ys.length) : ∃ x, xs[i]? = some x := by
  have e := Paired.length h
  exact ⟨xs[i]'(by omega), by simp⟩
theorem itl_ok {p : Addr} {vs : List V} {xs : List α} (h : SqL K G p vs) (r : RLs R K G vs xs) : ItOk K G [] R (Itl K p) xs where
  go := fun i G1 H a b _ hi => let ⟨x, hx⟩ := paired_lt r hi; ⟨vs, x, same_l (a.trans b) h, hx⟩
  stop := fun G1 H a b _ => ⟨vs, same_l (a.trans b) h, Nat.le_of_eq (Paired.length r)⟩
  yld := fun i G1 H v H' a b _ hi y => by
    obtain ⟨e, y⟩ := y
    subst e
    obtain ⟨x, hx, rx⟩ := paired_get r (y vs (same_l (a.trans b) h))
    exact ⟨x, G1, hx, Stp.refl b, R.mono a rx⟩
theorem itt_ok {p : Addr} {vs : List V} {xs : List α} (h : SqT K G p vs) (r : RLs R K G vs xs) : ItOk K G [] R (Itt K p) xs where
  go := fun i G1 H a b _ hi => let ⟨x, hx⟩ := paired_lt r hi; ⟨vs, x, same_t (a.trans b) h, hx⟩
  stop := fun G1 H a b _ => ⟨vs, same_t (a.trans b) h, Nat.le_of_eq (Paired.length r)⟩
  yld := fun i G1 H v H' a b _ hi y => by
    obtain ⟨e, y⟩ := y
    subst e
    obtain ⟨x, hx, rx⟩ := paired_get r (y vs (same_t (a.trans b) h))
    exact ⟨x, G1, hx, Stp.refl b, R.mono a rx⟩
theorem i_list {m : Res (List α)} (h : EvE K fm te σ G O (rL R) m) : EvI K fm (iList K te) σ G O [] R m := fun G1 H1 e k Q q =>
  h G1 H1 e k _ (Res.wp_mono q (fun xs f v G2 H2 s ⟨p, vs, ev, hq, r⟩ => ⟨p, ev, ⟨vs, same_l s.gh hq⟩, f _ G2 H2 s (itl_ok hq r)⟩) fun _ _ z => z)
theorem i_tup {m : Res (List α)} (h : EvE K fm te σ G O (rT R) m) : EvI K fm (iTup K te) σ G O [] R m := fun G1 H1 e k Q q =>
  h G1 H1 e k _ (Res.wp_mono q (fun xs f v G2 H2 s ⟨p, vs, ev, hq, r⟩ => ⟨p, ev, ⟨vs, same_t s.gh hq⟩, f _ G2 H2 s (itt_ok hq r)⟩) fun _ _ z => z)
/-- lo, lo + 1, .. -/
def rgL (lo : Int) (n : Nat) : List Int := (List.range n).map fun i => lo + (i : Nat)
theorem rgL_length (lo : Int) (n : Nat) : (rgL lo n).length = n := by simp [rgL]
theorem rgL_get (lo : Int) {n i : Nat} (h : i < n) : (rgL lo n)[i]? = some (lo + (i : Nat)) := by simp [rgL, h]
theorem itr_ok (lo : Int) (n : Nat) : ItOk K G [] zI (Itr lo n) (rgL lo n) where
  go := fun i G1 H a b _ hi => by rw [rgL_length] at hi; exact hi
  stop := fun G1 H a b _ => by rw [rgL_length]; exact Nat.le_refl n
  yld := fun i G1 H v H' a b _ hi y => by
    rw [rgL_length] at hi
    obtain ⟨e, y⟩ := y
    subst e
    exact ⟨_, G1, rgL_get lo hi, Stp.refl b, y⟩
def inR (j : Int) : Bool := decide (-(2 ^ 62) ≤ j) && decide (j < 2 ^ 62)
def rng1M (a : Res Int) : Res (List Int) := a.bind fun j => if inR j = true then .ok (rgL 0 j.toNat) else .stuck
def rng2M (a b : Res Int) : Res (List Int) := a.bind fun i => b.bind fun j => if (inR i && inR j) = true then .ok (rgL i (j - i).toNat) else .stuck
theorem i_rng1 {a : Res Int} (h : EvE K fm te σ G O zI a) : EvI K fm (iRng1 (tCons te tNil)) σ G O [] zI (rng1M a) := fun G1 H1 e k Q q =>
  h G1 H1 e k _ (Res.wp_mono (Res.wp_bind q) (fun j q v G2 H2 s r => by
    cases (show v = .int j from r)
    cases hj : inR j with
    | false => rw [hj] at q; exact q.elim
    | true =>
      rw [hj, if_pos rfl] at q
      simp only [inR, Bool.and_eq_true, decide_eq_true_eq] at hj
      exact ⟨j, rfl, hj.1, hj.2, q _ G2 H2 s (itr_ok 0 _)⟩) fun _ _ z => z)
theorem i_rng2 {a b : Res Int} (h : EvE K fm ta σ G O zI a) (h' : EvE K fm tb σ G O zI b) : EvI K fm (iRng2 (tCons ta (tCons tb tNil))) σ G O [] zI (rng2M a b) := fun G1 H1 e k Q q =>
  h G1 H1 e k _ (Res.wp_mono (Res.wp_bind q) (fun i q v G2 H2 s r =>
    h' G2 H2 (e.trans s.gg) (k.stp s) _ (Res.wp_mono (Res.wp_bind q) (fun j q w G3 H3 s' r' => by
      cases (show v = .int i from r)
      cases (show w = .int j from r')
      cases hj : (inR i && inR j) with
      | false => rw [hj] at q; exact q.elim
      | true =>
        rw [hj, if_pos rfl] at q
        simp only [inR, Bool.and_eq_true, decide_eq_true_eq] at hj
        exact ⟨i, j, rfl, ⟨hj.1.1, hj.1.2, hj.2.1, hj.2.2⟩, q _ G3 H3 (s.trans s') (itr_ok i _)⟩) fun _ _ z => z)) fun _ _ z => z)
/-- enumerate(list) -/
def enumL {α : Type} (xs : List α) : List (Int × α) := xs.mapIdx fun i x => ((i : Nat), x)
theorem enumL_length (xs : List α) : (enumL xs).length = xs.length := by simp [enumL]
theorem ite_okE {p : Addr} {vs : List V} {xs : List α} (h : SqL K G p vs) (r : RLs R K G vs xs) : ItOk K G [] (rP2 zI R) (Ite K p) (enumL xs) where
  go := fun i G1 H a b _ hi => by
    rw [enumL_length] at hi
    obtain ⟨x, hx⟩ := paired_lt r hi
    exact ⟨vs, x, same_l (a.trans b) h, hx⟩
  stop := fun G1 H a b _ => ⟨vs, same_l (a.trans b) h, by rw [enumL_length]; exact Nat.le_of_eq (Paired.length r)⟩
  yld := fun i G1 H v H' a b _ hi y => by
    obtain ⟨p', x, ev, hp, eH, y⟩ := y
    subst ev eH
    obtain ⟨z, hz, rz⟩ := paired_get r (y vs (same_l (a.trans b) h))
    refine ⟨((i : Int), z), _, by simp [enumL, List.getElem?_mapIdx, hz], Stp.new b hp, p', _, rfl, .inl (.inl upd_same), _, _, rfl, rfl, _, rfl, R.mono (a.trans (same_new (same_back b hp))) rz⟩
def enumM {α : Type} (m : Res (List α)) : Res (List (Int × α)) := m.bind fun xs => .ok (enumL xs)
@[simp] theorem enumM_ok {α : Type} (xs : List α) : enumM (.ok xs) = .ok (enumL xs) := rfl
theorem i_enum {m : Res (List α)} (h : EvE K fm te σ G O (rL R) m) : EvI K fm (iEnum K (tCons te tNil)) σ G O [] (rP2 zI R) (enumM m) := fun G1 H1 e k Q q =>
  h G1 H1 e k _ (Res.wp_mono (Res.wp_bind q) (fun xs f v G2 H2 s ⟨p, vs, ev, hq, r⟩ => by
    subst ev
    exact ⟨p, vs, rfl, same_l s.gh hq, f _ G2 H2 s (ite_okE hq r)⟩) fun _ _ z => z)

/-! ### targets -/
def setL (σ : L2.St) : List Nat → List V → L2.St
  | i :: is, v :: vs => setL (σ.set i (some v)) is vs
  | _, _ => σ
def Tgt (K : PySem.W.Frag) (g : TG) (R : Rp α) (S : Rps α) (is : List Nat) : Prop := ∀ G H v x σ (Q : L2.St → Hp → Prop), Same G H → R.r K G v x → (∀ vs, S.r K G vs x → Q (setL σ is vs) H) → g v σ H Q
theorem tg_name {i : Nat} : Tgt K (gName i) R (rs1 R) [i] := fun G H v x σ Q e r q => q [v] ⟨v, rfl, r⟩
theorem tg_tup2 {i j : Nat} {R : Rp α} {S : Rp β} : Tgt K (gTup K 2 (gCons (gName i) (gCons (gName j) gNil))) (rP2 R S) (rsC R (rs1 S)) [i, j] := fun G H v x σ Q e r q => by
  obtain ⟨p, vs, ev, hq, rs⟩ := r
  obtain ⟨v1, r1, e1, h1, v2, e2, h2⟩ := id rs
  subst ev e1 e2
  exact ⟨p, _, rfl, same_t e hq, rfl, v1, _, rfl, v2, _, rfl, rfl, q _ rs⟩
theorem tg_tup3 {i j k : Nat} {R : Rp α} {S : Rp β} {T : Rp γ} : Tgt K (gTup K 3 (gCons (gName i) (gCons (gName j) (gCons (gName k) gNil)))) (rP3 R S T) (rsC R (rsC S (rs1 T))) [i, j, k] := fun G H v x σ Q e r q => by
  obtain ⟨p, vs, ev, hq, rs⟩ := r
  obtain ⟨v1, r1, e1, h1, v2, r2, e2, h2, v3, e3, h3⟩ := id rs
  subst ev e1 e2 e3
  exact ⟨p, _, rfl, same_t e hq, rfl, v1, _, rfl, v2, _, rfl, v3, _, rfl, rfl, q _ rs⟩

/-! ### list comprehensions -/
def lcM {α β : Type} (p : α → Res Bool) (f : α → Res β) : List α → Res (List β)
  | [] => .ok []
  | x :: xs => (p x).nox.bind fun b => if b = true then (f x).nox.bind fun y => (lcM p f xs).bind fun ys => .ok (y :: ys) else lcM p f xs
def lcB {α β : Type} (p : α → Res Bool) (f : α → Res β) (m : Res (List α)) : Res (List β) := m.bind fun xs => if xs.length < lim then lcM p f xs else .stuck
theorem wipe_get (τ : L2.St) (ws : List Nat) (j : Nat) : (wipe τ ws)[j]? = if j ∈ ws then (τ[j]?).map fun _ => none else τ[j]? := by
  induction ws with
  | nil => simp [wipe]
  | cons w ws ih =>
    show ((wipe τ ws).set w none)[j]? = _
    by_cases e : w = j
    · subst e
      rw [if_pos List.mem_cons_self]
      by_cases hl : w < τ.length
      · rw [List.getElem?_set_self (by rw [wipe_length]; exact hl)]
        simp [hl]
      · rw [List.getElem?_eq_none (by rw [List.length_set, wipe_length]; omega), List.getElem?_eq_none (by omega)]
        rfl
    · rw [List.getElem?_set_ne e, ih]
      by_cases hj : j ∈ ws
      · rw [if_pos hj, if_pos (List.mem_cons_of_mem _ hj)]
      · rw [if_neg hj, if_neg (by
          intro q
          rcases List.mem_cons.mp q with q | q
          · exact e q.symm
          · exact hj q)]
theorem wipe_set {σ : L2.St} {v : Option V} {i : Nat} {ws : List Nat} (h : i ∈ ws) : wipe (σ.set i v) ws = wipe σ ws := by
  apply List.ext_getElem?
  intro j
  rw [wipe_get, wipe_get]
  by_cases hj : j ∈ ws
  · rw [if_pos hj, if_pos hj]
    by_cases e : i = j
    · subst e
      by_cases hl : i < σ.length
      · rw [List.getElem?_set_self hl]; simp [hl]
      · rw [List.getElem?_eq_none (by rw [List.length_set]; omega), List.getElem?_eq_none (by omega)]
    · rw [List.getElem?_set_ne e]
  · rw [if_neg hj, if_neg hj, List.getElem?_set_ne]
    intro e; subst e; exact hj h
theorem wipe_wipe {σ : L2.St} {ws vs : List Nat} (h : ∀ i ∈ vs, i ∈ ws) : wipe (wipe σ vs) ws = wipe σ ws := by
  apply List.ext_getElem?
  intro j
  rw [wipe_get, wipe_get, wipe_get]
  by_cases hj : j ∈ ws
  · rw [if_pos hj, if_pos hj]
    split
    · cases σ[j]? <;> rfl
    · rfl
  · rw [if_neg hj, if_neg hj, if_neg fun q => hj (h j q)]
theorem wipe_setL {ws : List Nat} : ∀ {is : List Nat} {vs : List V} {σ : L2.St}, (∀ i ∈ is, i ∈ ws) → wipe (setL σ is vs) ws = wipe σ ws
  | [], _, _, _ => rfl
  | i :: is, [], _, _ => rfl
  | i :: is, v :: vs, σ, h => by
    show wipe (setL (σ.set i (some v)) is vs) ws = _
    rw [wipe_setL fun j hj => h j (List.mem_cons_of_mem _ hj), wipe_set (h i List.mem_cons_self)]
abbrev Fm.e0 (fm : Fm) : Fm := { fm with E := E0 }
theorem t_yes : EvT fm tYes σ G O (.ok true) := fun G1 H1 e k Q q => q G1 H1 (Stp.refl k.gh)
theorem Kn.e0 (k : Kn fm G O H) : Kn fm.e0 G O H := ⟨k.fr, k.gh, k.own⟩
theorem n_lc {Oi : Own} {ti : TI} {g : TG} {tt : TT} {ws is : List Nat} {m : Res (List α)} {Ss : Rps α} {p : α → Res Bool} {f : α → Res β}
    (hi : EvI K fm ti σ G O Oi R m) (hO : ∀ p ∈ Oi, p ∈ O) (tg : Tgt K g R Ss is) (hw : ∀ i ∈ is, i ∈ ws)
    (hb : ∀ x vs G', Same G G' → Ss.r K G' vs x → EvT fm.e0 tt (setL (wipe σ ws) is vs) G' O (p x) ∧ EvE K fm.e0 te (setL (wipe σ ws) is vs) G' O S (f x)) :
    EvN K fm (tLc ti g tt te ws) σ G O S (lcB p f m) := fun G1 H1 e k Q q =>
  hi G1 H1 e k _ (Res.wp_mono (Res.wp_bind q) (fun xs q J G2 H2 s it Dl hD => by
    by_cases hl : xs.length < lim
    · rw [if_pos hl] at q
      have kD : Kn fm G2 O (upd H2 Dl (.lst [])) := (k.stp s).stp (Stp.grow s.gh (same_new hD))
      have gD : G2 Dl = none := same_back s.gh hD
      refine ⟨fun i mm H => mm = xs.length - i ∧ i ≤ xs.length ∧ ∃ (G3 : Hp) (acc : List V) (ys : List β), Same G2 G3 ∧ Stp G2 H2 G3 H ∧ Kn fm G3 O H ∧ G3 Dl = none ∧ H Dl = some (.lst acc) ∧ acc.length ≤ i ∧ RLs S K G3 acc ys ∧
          (lcM p f (xs.drop i)).wp (fun zs => ∀ (q : Addr) vs G4 H4, Stp G1 H1 G4 H4 → H1 q = none → G4 q = none → H4 q = some (.lst vs) → RLs S K G4 vs (ys ++ zs) → Q (.ref q) H4) fm.xw,
        ⟨xs.length, by simp, Nat.zero_le _, G2, [], [], Same.refl _, Stp.grow s.gh (same_new hD), kD, gD, upd_same, Nat.le_refl _, .nil, q⟩, ?_⟩
      rintro i mm H ⟨rfl, hle, G3, acc, ys, g3, s3, k3, d3, hd3, hacc, racc, q3⟩
      by_cases hlt : i < xs.length
      · refine .inr ⟨it.go i G3 H g3 k3.gh (fun p hp => k3.own p (hO p hp)) hlt, _, fun H' z => ⟨xs.length - (i + 1), by omega, z⟩, fun v H' y => ?_⟩
        obtain ⟨x, G4, hx, s4, rx⟩ := it.yld i G3 H v H' g3 k3.gh (fun p hp => k3.own p (hO p hp)) hlt y
        have hdrop : xs.drop i = x :: xs.drop (i + 1) := by
          obtain ⟨h1, h2⟩ := List.getElem?_eq_some_iff.mp hx
          rw [List.drop_eq_getElem_cons h1, h2]
        rw [hdrop] at q3
        refine tg G4 H' v x _ _ s4.gh rx fun vs rvs => ⟨by rw [wipe_setL hw, wipe_wipe fun i h => h], ?_⟩
        obtain ⟨ht, he⟩ := hb x vs G4 ((e.trans s.gg).trans (g3.trans s4.gg)) rvs
        have k4 : Kn fm G4 O H' := k3.stp s4
        have hd4 : H' Dl = some (.lst acc) := s4.hh _ _ hd3
        have gd4 : G4 Dl = none := by rw [s4.old Dl _ hd3]; exact d3
        refine ht G4 H' (Same.refl _) k4.e0 _ (Res.wp_mono (Res.wp_nox (Res.wp_bind q3)) (fun b q5 G5 H5 s5 => ?_) fun _ _ z => z)
        have hd5 : H5 Dl = some (.lst acc) := s5.hh _ _ hd4
        have gd5 : G5 Dl = none := by rw [s5.old Dl _ hd4]; exact gd4
        cases b with
        | true =>
          refine iteT ?_
          rw [if_pos rfl] at q5
          refine he G5 H5 s5.gg (k4.stp s5).e0 _ (Res.wp_mono (Res.wp_nox (Res.wp_bind q5)) (fun y q6 v' G6 H6 s6 r6 => ?_) fun _ _ z => z)
          have hd6 : H6 Dl = some (.lst acc) := s6.hh _ _ hd5
          have gd6 : G6 Dl = none := by rw [s6.old Dl _ hd5]; exact gd5
          have sAll : Stp G2 H2 G6 H6 := s3.trans ((s4.trans s5).trans s6)
          refine ⟨acc, hd6, by rw [← lim_eq]; omega, rfl, hlt, G6, acc ++ [v'], ys ++ [y], g3.trans ((s4.gg.trans s5.gg).trans s6.gg), ?_, ?_, gd6, upd_same, by rw [List.length_append, List.length_singleton]; omega, paired_app (racc.mono ((s4.gg.trans s5.gg).trans s6.gg)) (.cons r6 .nil), ?_⟩
          · exact ⟨same_mut sAll.hh hD, sAll.gg, same_mut sAll.gh gd6, sAll.old⟩
          · have k6 := (k4.stp s5).stp s6
            refine ⟨fun b o h => ?_, same_mut k6.gh gd6, fun p hp => ?_⟩
            · have := k6.fr b o h
              rw [upd_ne]
              · exact this
              · intro eb; subst eb
                have z := (k.stp s).fr _ _ h
                rw [hD] at z; cases z
            · rw [upd_ne]
              · exact k6.own p hp
              · intro eb
                have z := (k.stp s).own p hp
                rw [eb, hD] at z; cases z
          · exact Res.wp_mono (Res.wp_bind q6) (fun zs q7 qa vs' G7 H7 a b c d r => q7 qa vs' G7 H7 a b c d (by rw [List.append_assoc] at r; exact r)) fun _ _ z => z
        | false =>
          refine iteF ?_
          rw [if_neg Bool.false_ne_true] at q5
          exact ⟨rfl, hlt, G5, acc, ys, g3.trans (s4.gg.trans s5.gg), s3.trans (s4.trans s5), k4.stp s5, gd5, hd5, by omega, racc.mono (s4.gg.trans s5.gg), q5⟩
      · have ei : i = xs.length := by omega
        subst ei
        rw [List.drop_length] at q3
        exact .inl ⟨it.stop G3 H g3 k3.gh (fun p hp => k3.own p (hO p hp)), q3 Dl acc G3 H (s.trans s3) (same_back s.hh hD) d3 hd3 (by rw [List.append_nil]; exact racc)⟩
    · rw [if_neg hl] at q; exact q.elim) fun _ _ z => z)
end
end Mw

namespace Mw
open PySem L2
/-- the state of a def's body: what it began with, the ghost, its own cells -/
structure Hs (fm : Fm) (G : Hp) (O : Own) (H : Hp) : Prop where
  fr : Same fm.F H
  g0 : Same fm.G0 G
  gh : Same G H
  old : ∀ b o, fm.F b = some o → G b = fm.G0 b
  own : ∀ p ∈ O, H p.1 = some p.2 ∧ G p.1 = none ∧ fm.F p.1 = none
  nd : (O.map (·.1)).Nodup
section
variable {α β γ δ ρ : Type} {K : PySem.W.Frag} {fm : Fm} {σ : L2.St} {G G' H H' : Hp} {O : Own}
theorem Hs.kn (h : Hs fm G O H) : Kn fm G O H := ⟨h.fr, h.gh, fun p hp => (h.own p hp).1⟩
theorem Hs.start {cl : Nat → Addr} {E : XK} (g : Same G H) : Hs ⟨H, G, E, cl⟩ G [] H := ⟨Same.refl _, Same.refl _, g, fun _ _ _ => rfl, (fun p hp => by cases hp), List.nodup_nil⟩
theorem Hs.stp (h : Hs fm G O H) (s : Stp G H G' H') : Hs fm G' O H' :=
  ⟨h.fr.trans s.hh, h.g0.trans s.gg, s.gh, fun b o e => (s.old b o (h.fr b o e)).trans (h.old b o e), fun p hp => by
    obtain ⟨a, b, c⟩ := h.own p hp
    exact ⟨s.hh _ _ a, (s.old _ _ a).trans b, c⟩, h.nd⟩
theorem Hs.fin (h : Hs fm G O H) : Stp fm.G0 fm.F G H := ⟨h.fr, h.g0, h.gh, h.old⟩
/-- a new cell of one's own -/
theorem Hs.new {p : Addr} {o : HO} (h : Hs fm G O H) (s : Stp G H G' H') (hp : H p = none) (gp : G' p = none) (e : H' p = some o) : Hs fm G' ((p, o) :: O) H' := by
  have h' := h.stp s
  refine ⟨h'.fr, h'.g0, h'.gh, h'.old, fun q hq => ?_, ?_⟩
  · rcases List.mem_cons.mp hq with rfl | hq
    · exact ⟨e, gp, same_back h.fr hp⟩
    · exact h'.own q hq
  · rw [List.map_cons, List.nodup_cons]
    refine ⟨fun hm => ?_, h.nd⟩
    obtain ⟨q, hq, e'⟩ := List.mem_map.mp hm
    have := (h.own q hq).1
    rw [e', hp] at this
    cases this
theorem nodup_at {O : Own} (h : (O.map (·.1)).Nodup) {i j : Nat} {p q : Addr × HO} (a : O[i]? = some p) (b : O[j]? = some q) (e : p.1 = q.1) : i = j := by
  have a' : (O.map (·.1))[i]? = some p.1 := by rw [List.getElem?_map, a]; rfl
  have b' : (O.map (·.1))[j]? = some p.1 := by rw [List.getElem?_map, b, e]; rfl
  obtain ⟨h1, e1⟩ := List.getElem?_eq_some_iff.mp a'
  obtain ⟨h2, e2⟩ := List.getElem?_eq_some_iff.mp b'
  exact (List.getElem_inj h).mp (e1.trans e2.symm)
/-- a cell of one's own is written -/
theorem Hs.set (h : Hs fm G O H) (i : Nat) {a : Addr} {o o' : HO} (hi : O[i]? = some (a, o)) : Hs fm G (O.set i (a, o')) (upd H a o') := by
  obtain ⟨ha, ga, fa⟩ := h.own (a, o) (List.mem_of_getElem? hi)
  refine ⟨same_mut h.fr fa, h.g0, same_mut h.gh ga, h.old, fun q hq => ?_, ?_⟩
  · obtain ⟨j, hj⟩ := List.mem_iff_getElem?.mp hq
    by_cases e : i = j
    · subst e
      rw [List.getElem?_set_self (List.getElem?_eq_some_iff.mp hi).1] at hj
      cases hj
      exact ⟨upd_same, ga, fa⟩
    · rw [List.getElem?_set_ne e] at hj
      obtain ⟨hq1, hq2, hq3⟩ := h.own q (List.mem_of_getElem? hj)
      refine ⟨?_, hq2, hq3⟩
      rw [upd_ne]
      · exact hq1
      · intro z
        exact e (nodup_at h.nd hi hj z.symm)
  · rw [List.map_set]
    have : (O.map (·.1)).set i a = O.map (·.1) := by
      apply List.ext_getElem?
      intro j
      by_cases e : i = j
      · subst e
        rw [List.getElem?_set_self (by rw [List.length_map]; exact (List.getElem?_eq_some_iff.mp hi).1), List.getElem?_map, hi]; rfl
      · rw [List.getElem?_set_ne e]
    rw [this]; exact h.nd
theorem Hs.at (h : Hs fm G O H) (i : Nat) {a : Addr} {o : HO} (hi : O[i]? = some (a, o)) : H a = some o ∧ G a = none ∧ fm.F a = none := h.own (a, o) (List.mem_of_getElem? hi)
/-- a cell of one's own is given away -/
theorem Hs.give (h : Hs fm G O H) (i : Nat) {a : Addr} {o : HO} (hi : O[i]? = some (a, o)) : Hs fm (upd G a o) (O.eraseIdx i) H := by
  obtain ⟨ha, ga, fa⟩ := h.at i hi
  refine ⟨h.fr, h.g0.trans (same_new ga), same_updG h.gh ha, fun b o e => ?_, fun q hq => ?_, ?_⟩
  · rw [upd_ne (ne_of_none e fa)]; exact h.old b o e
  · obtain ⟨j, hj⟩ := List.mem_iff_getElem?.mp hq
    have hj' : ∃ k, k ≠ i ∧ O[k]? = some q := by
      rw [List.getElem?_eraseIdx] at hj
      split at hj
      · exact ⟨j, by omega, hj⟩
      · exact ⟨j + 1, by omega, hj⟩
    obtain ⟨k, hk, hq'⟩ := hj'
    obtain ⟨hq1, hq2, hq3⟩ := h.own q (List.mem_of_getElem? hq')
    refine ⟨hq1, ?_, hq3⟩
    rw [upd_ne]
    · exact hq2
    · intro z
      exact hk (nodup_at h.nd hq' hi z)
  · exact h.nd.sublist ((List.eraseIdx_sublist _ _).map _)
/-- a cell is forgotten -/
theorem Hs.drop (h : Hs fm G O H) (i : Nat) : Hs fm G (O.eraseIdx i) H :=
  ⟨h.fr, h.g0, h.gh, h.old, fun q hq => h.own q ((List.eraseIdx_sublist O i).subset hq), h.nd.sublist ((List.eraseIdx_sublist _ _).map _)⟩

/-! ### lending: what does not keep the cell may look at it -/
variable {te ta tb tc : TE} {R : Rp α} {S : Rp β} {T : Rp γ} {m : Res α} {n : Res β}
theorem lend_kn {l : Addr} {o : HO} {G1 H1 : Hp} (k : Kn fm G1 O H1) (hl : (l, o) ∈ O) : Kn fm (upd G1 l o) O H1 := ⟨k.fr, same_updG k.gh (k.own _ hl), k.own⟩
theorem lend_same {l : Addr} {o : HO} {G G1 : Hp} (e : Same G G1) : Same (upd G l o) (upd G1 l o) := same_upd e
theorem t_lend {t : TT} {l : Addr} {o : HO} {m : Res Bool} (hl : (l, o) ∈ O) (h : EvT fm t σ (upd G l o) O m) : EvT fm t σ G O m := fun G1 H1 e k Q q =>
  h (upd G1 l o) H1 (same_upd e) (lend_kn k hl) _ (Res.wp_mono q (fun x f G2 H2 s => f G1 H2 (Stp.grow k.gh s.hh)) fun _ _ z => z)
theorem e_lend {l : Addr} {o : HO} (sc : Sc R) (hl : (l, o) ∈ O) (h : EvE K fm te σ (upd G l o) O R m) : EvE K fm te σ G O R m := fun G1 H1 e k Q q =>
  h (upd G1 l o) H1 (same_upd e) (lend_kn k hl) _ (Res.wp_mono q (fun x f v G2 H2 s r => f v G1 H2 (Stp.grow k.gh s.hh) (sc _ _ _ _ _ r)) fun _ _ z => z)
theorem n_lend {l : Addr} {o : HO} {m : Res (List α)} (sc : Sc R) (hl : (l, o) ∈ O) (h : EvN K fm te σ (upd G l o) O R m) : EvN K fm te σ G O R m := fun G1 H1 e k Q q =>
  h (upd G1 l o) H1 (same_upd e) (lend_kn k hl) _ (Res.wp_mono q (fun x f p vs G2 H2 s hp gp h2 r => f p vs G1 H2 (Stp.grow k.gh s.hh) hp (same_back k.gh hp) h2 (Paired.mapP r fun _ _ q => sc _ _ _ _ _ q)) fun _ _ z => z)
/-- a cell of one's own, as a value that is lent -/
theorem e_own {i : Nat} {l : Addr} {vs : List V} {xs : List α} (h : σ[i]? = some (some (.ref l))) (hG : G l = some (.lst vs)) (r : RLs R K G vs xs) : EvE K fm (tVar i) σ G O (rK R) (.ok xs) := e_var h ⟨l, vs, rfl, hG, r⟩
/-- what stands at a cell of one's own: its length, its items -/
theorem e_lenO {i : Nat} {l : Addr} {vs : List V} {xs : List α} (h : σ[i]? = some (some (.ref l))) (hl : (l, HO.lst vs) ∈ O) (r : RLs R K G vs xs) : EvE K fm (tCB (rLen K) (tCons (tVar i) tNil)) σ G O zI (lenM (.ok xs)) := fun G1 H1 e k Q q =>
  ⟨_, h, _, xs.length, rfl, .inl ⟨vs, SqL.of (k.own _ hl), (Paired.length r).symm⟩, q _ G1 H1 (Stp.refl k.gh) rfl⟩
theorem e_ixO {i : Nat} {l : Addr} {vs : List V} {xs : List α} {n : Res Int} (h : σ[i]? = some (some (.ref l))) (hl : (l, HO.lst vs) ∈ O) (r : RLs R K G vs xs) (hb : EvE K fm tb σ G O zI n) : EvE K fm (tOp (rIxL K) (tVar i) tb) σ G O R (idxM (.ok xs) n) := fun G1 H1 e k Q q =>
  ⟨_, h, hb G1 H1 e k _ (Res.wp_mono (Res.wp_bind (m := n) (f := fun j => optM (atI xs j)) q) (fun j q v G2 H2 s rv => by
    cases (show v = .int j from rv)
    cases ea : atI xs j with
    | none => rw [ea] at q; exact q.elim
    | some y =>
      rw [ea] at q
      obtain ⟨w, ew, rw'⟩ := paired_at r ea
      exact ⟨l, vs, j, w, rfl, rfl, SqL.of ((k.stp s).own _ hl), ew, q w G2 H2 s (R.mono (e.trans s.gg) rw')⟩) fun _ _ z => z)⟩

/-! ### statements -/
variable {D : Ends} {tr tt tu tw : TS} {ρ : Type} {Rρ : Rp ρ} {Q : ρ → Prop}
theorem s_asg {g : TG} {Ss : Rps α} {is : List Nat} {mk : α → Res ρ} (tg : Tgt K g R Ss is) (he : EvE K fm te σ G O R m) (hs : Hs fm G O H) (hm : (m.bind mk).wp Q fm.xw)
    (k : ∀ x vs G' H', Same G G' → Hs fm G' O H' → Ss.r K G' vs x → (mk x).wp Q fm.xw → tr D (setL σ is vs) H') : tSeq (tAsg te g) tr D σ H :=
  he G H (Same.refl _) hs.kn _ (Res.wp_mono (Res.wp_bind hm) (fun x q v G2 H2 s r => tg G2 H2 v x σ _ s.gh r fun vs rv => k x vs G2 H2 s.gg (hs.stp s) rv q) fun _ _ z => z)
/-- a new list of one's own -/
theorem s_asgN {i : Nat} {m : Res (List α)} {mk : List α → Res ρ} (he : EvN K fm te σ G O R m) (hs : Hs fm G O H) (hm : (m.bind mk).wp Q fm.xw)
    (k : ∀ xs p vs G' H', Same G G' → Hs fm G' ((p, .lst vs) :: O) H' → RLs R K G' vs xs → (mk xs).wp Q fm.xw → tr D (σ.set i (some (.ref p))) H') : tSeq (tAsg te (gName i)) tr D σ H :=
  he G H (Same.refl _) hs.kn _ (Res.wp_mono (Res.wp_bind hm) (fun xs q p vs G2 H2 s hp gp hl r => k xs p vs G2 H2 s.gg (hs.new s hp gp hl) r q) fun _ _ z => z)
theorem s_aug {i : Nat} {f : Int → Int → Int} {x : Int} {m : Res Int} {mk : Int → Res ρ} (hx : σ[i]? = some (some (.int x))) (he : EvE K fm te σ G O zI m) (hs : Hs fm G O H) (hm : (m.bind fun y => mk (f x y)).wp Q fm.xw)
    (k : ∀ y G' H', Same G G' → Hs fm G' O H' → (mk (f x y)).wp Q fm.xw → tr D (σ.set i (some (.int (f x y)))) H') : tSeq (tAug i te (ipI f)) tr D σ H :=
  ⟨.int x, hx, he G H (Same.refl _) hs.kn _ (Res.wp_mono (Res.wp_bind hm) (fun y q v G2 H2 s r => ⟨x, y, rfl, r, k y G2 H2 s.gg (hs.stp s) q⟩) fun _ _ z => z)⟩
/-- a value that is dropped -/
theorem s_drop {mk : α → Res ρ} (he : EvE K fm te σ G O R m) (hs : Hs fm G O H) (hm : (m.bind mk).wp Q fm.xw)
    (k : ∀ x G' H', Same G G' → Hs fm G' O H' → (mk x).wp Q fm.xw → tr D σ H') : tSeq (tDrop te) tr D σ H :=
  he G H (Same.refl _) hs.kn _ (Res.wp_mono (Res.wp_bind hm) (fun x q v G2 H2 s r => k x G2 H2 s.gg (hs.stp s) q) fun _ _ z => z)
theorem s_ret {kr : α → ρ} (he : EvE K fm te σ G O R m) (hs : Hs fm G O H) (hm : (m.bind fun r => .ok (kr r)).wp Q fm.xw)
    (k : ∀ r v G' H', Hs fm G' O H' → R.r K G' v r → Q (kr r) → D.rt v H') : tSeq (tRet te) tr D σ H :=
  he G H (Same.refl _) hs.kn _ (Res.wp_mono (Res.wp_bind hm) (fun x q v G2 H2 s r => k x v G2 H2 (hs.stp s) r q) fun _ _ z => z)
theorem s_if {c : TT} {mc : Res Bool} {a b : Res ρ} (hc : EvT fm c σ G O mc) (hs : Hs fm G O H) (hm : (Res.ite mc a b).wp Q fm.xw)
    (h1 : ∀ G' H', Same G G' → Hs fm G' O H' → a.wp Q fm.xw → tt { D with nx := tr D } σ H') (h2 : ∀ G' H', Same G G' → Hs fm G' O H' → b.wp Q fm.xw → tu { D with nx := tr D } σ H') : tSeq (tIfS c tt tu) tr D σ H :=
  hc G H (Same.refl _) hs.kn _ (Res.wp_mono (Res.wp_bind hm) (fun x q G2 H2 s => by
    cases x with
    | true => exact h1 G2 H2 s.gg (hs.stp s) q
    | false => exact h2 G2 H2 s.gg (hs.stp s) q) fun _ _ z => z)
/-- xs.append(e), xs in slot i, its cell the j-th of one's own -/
theorem s_append {i : Nat} (j : Nat) {l : Addr} {vs : List V} {xs : List α} {m : Res α} {mk : List α → Res ρ} (hx : σ[i]? = some (some (.ref l))) (hj : O[j]? = some (l, .lst vs)) (hr : RLs R K G vs xs) (he : EvE K fm te σ G O R m) (hs : Hs fm G O H)
    (hm : (m.bind fun y => if xs.length < lim then mk (xs ++ [y]) else .stuck).wp Q fm.xw)
    (k : ∀ y v G' H', Same G G' → Hs fm G' (O.set j (l, .lst (vs ++ [v]))) H' → RLs R K G' (vs ++ [v]) (xs ++ [y]) → (mk (xs ++ [y])).wp Q fm.xw → tr D σ H') : tSeq (tDrop (tBM K "list" rAppend (tVar i) (tCons te tNil))) tr D σ H :=
  ⟨_, hx, .inl ⟨rfl, vs, SqL.of (hs.at j hj).1⟩, he G H (Same.refl _) hs.kn _ (Res.wp_mono (Res.wp_bind hm) (fun y q v G2 H2 s r => by
    by_cases hl : xs.length < lim
    · rw [if_pos hl] at q
      exact ⟨l, vs, v, rfl, rfl, s.hh _ _ (hs.at j hj).1, by rw [Paired.length hr, ← lim_eq]; exact hl, k y v G2 _ s.gg ((hs.stp s).set j hj) (paired_app (hr.mono s.gg) (.cons r .nil)) q⟩
    · rw [if_neg hl] at q; exact q.elim) fun _ _ z => z)⟩
/-- xs[i] = e -/
def setF {α : Type} (xs : List α) (i : Int) (y : α) : Res (List α) := match ixN xs.length i with | some j => .ok (xs.set j y) | none => .stuck
theorem s_setL {i : Nat} (j : Nat) {l : Addr} {vs : List V} {xs : List α} {m : Res α} {n : Res Int} {mk : List α → Res ρ} (hx : σ[i]? = some (some (.ref l))) (hj : O[j]? = some (l, .lst vs)) (hr : RLs R K G vs xs) (he : EvE K fm te σ G O R m) (hi : EvE K fm ta σ G O zI n) (hs : Hs fm G O H)
    (hm : (m.bind fun y => n.bind fun z => (setF xs z y).bind mk).wp Q fm.xw)
    (k : ∀ ys ws G' H', Same G G' → Hs fm G' (O.set j (l, .lst ws)) H' → RLs R K G' ws ys → (mk ys).wp Q fm.xw → tr D σ H') : tSeq (tAsg te (gSub (tVar i) ta rSetL)) tr D σ H :=
  he G H (Same.refl _) hs.kn _ (Res.wp_mono (Res.wp_bind hm) (fun y q v G2 H2 s r => ⟨_, hx, hi G2 H2 s.gg (hs.stp s).kn _ (Res.wp_mono (Res.wp_bind q) (fun z q v' G3 H3 s' r' => by
    have ss := s.trans s'
    cases (show v' = .int z from r')
    cases e : ixN xs.length z with
    | none => rw [setF, e] at q; exact q.elim
    | some jj =>
      rw [setF, e] at q
      exact ⟨l, vs, z, jj, rfl, rfl, ss.hh _ _ (hs.at j hj).1, by rw [Paired.length hr]; exact e, k _ _ G3 _ ss.gg ((hs.stp ss).set j hj) (paired_set (R.mono s'.gg r) jj (hr.mono ss.gg)) q⟩) fun _ _ z => z)⟩) fun _ _ z => z)
/-- raise, by the class's number, the exception without a dict -/
theorem s_raise {cl : Addr} {c : Nat} (hs : Hs fm G O H) (hm : (Res.exc c [] : Res ρ).wp Q fm.xw) (e : fm.cl c = cl) : tSeq (fun _ σ H => (fun _ H (Q : XK) => Q (.ref cl) none H : L2.St → Hp → XK → Prop) σ H fun cls d H' => (fun (cls : Value) (d : Option Addr) (_ : L2.St) (H : Hp) => fm.E cls d H) cls d σ H') tr D σ H := by
  show fm.E (.ref cl) none H
  rw [← e]
  exact hm H none hs.fr rfl

/-! ### loops -/
inductive Tn (S ρ : Type) where | nx (s : S) | bk (s : S) | rt (r : ρ)
inductive Lp (S ρ : Type) where | nx (s : S) | rt (r : ρ)
def forB {α S ρ : Type} (f : α → S → Res (Tn S ρ)) : List α → S → Res (Lp S ρ)
  | [], s => .ok (.nx s)
  | x :: xs, s => (f x s).bind fun t => match t with | .nx s' => forB f xs s' | .bk s' => .ok (.nx s') | .rt r => .ok (.rt r)
def forM {α S : Type} (f : α → S → Res S) : List α → S → Res S
  | [], s => .ok s
  | x :: xs, s => (f x s).bind fun s' => forM f xs s'
/-- what a turn's ends are to give -/
structure TEnds {S ρ : Type} (K : PySem.W.Frag) (fm : Fm) (G : Hp) (W : S → L2.St → Hp → Own → Prop) (Rρ : Rp ρ) (Qb : Tn S ρ → Prop) (D : Ends) : Prop where
  nx : ∀ s σ G1 G2 O H, Same G G2 → W s σ G1 O → Same G1 G2 → Hs fm G2 O H → Qb (.nx s) → D.nx σ H
  ct : ∀ s σ G1 G2 O H, Same G G2 → W s σ G1 O → Same G1 G2 → Hs fm G2 O H → Qb (.nx s) → D.ct σ H
  bk : ∀ s σ G1 G2 O H, Same G G2 → W s σ G1 O → Same G1 G2 → Hs fm G2 O H → Qb (.bk s) → D.bk σ H
  rt : ∀ r v G2 O H, Hs fm G2 O H → Rρ.r K G2 v r → Qb (.rt r) → D.rt v H
theorem s_forB {Oi : Own} {S π : Type} {Sr : Type} {Rr : Rp Sr} {ti : TI} {g : TG} {Ss : Rps α} {is : List Nat} {m : Res (List α)} {f : α → S → Res (Tn S Sr)} {mk : Lp S Sr → Res ρ} {s0 : S} (W : S → L2.St → Hp → Own → Prop)
    (hi : EvI K fm ti σ G O Oi R m) (hO : ∀ s σ G O, W s σ G O → ∀ p ∈ Oi, p ∈ O) (tg : Tgt K g R Ss is) (hs : Hs fm G O H) (hm : ((m.bind fun xs => forB f xs s0).bind mk).wp Q fm.xw) (h0 : W s0 σ G O)
    (hb : ∀ x s σ' G1 G' O' H' vs (D' : Ends) (Qb : Tn S Sr → Prop), Same G G' → W s σ' G1 O' → Same G1 G' → Hs fm G' O' H' → Ss.r K G' vs x → TEnds K fm G' W Rr Qb D' → (f x s).wp Qb fm.xw → tw D' (setL σ' is vs) H')
    (hn : ∀ s σ' G1 G' O' H', Same G G' → W s σ' G1 O' → Same G1 G' → Hs fm G' O' H' → (mk (.nx s)).wp Q fm.xw → tr D σ' H')
    (hr : ∀ r v G2 O2 H2, Hs fm G2 O2 H2 → Rr.r K G2 v r → (mk (.rt r)).wp Q fm.xw → D.rt v H2) : tSeq (tFor ti g tw) tr D σ H := by
  refine hi G H (Same.refl _) hs.kn _ (Res.wp_mono (Res.wp_bind (Res.wp_bind hm)) (fun xs q J G2 H2 s it => ?_) fun _ _ z => z)
  refine ⟨fun i mm σ' H' => mm = xs.length - i ∧ i ≤ xs.length ∧ ∃ s' G1 G' O', Same G2 G' ∧ W s' σ' G1 O' ∧ Same G1 G' ∧ Hs fm G' O' H' ∧ ((forB f (xs.drop i) s').bind mk).wp Q fm.xw,
    ⟨xs.length, by simp, Nat.zero_le _, s0, G, G2, O, Same.refl _, h0, s.gg, hs.stp s, by
      rw [List.drop_zero]
      cases hx : forB f xs s0 with
      | ok a => rw [hx] at q; exact q
      | exc c fs => rw [hx] at q; exact q
      | stuck => rw [hx] at q; exact q⟩, ?_⟩
  rintro i mm σ' H' ⟨rfl, hle, s', G1, G', O', g2, w, g1, hs', q'⟩
  by_cases hlt : i < xs.length
  · refine .inr ⟨it.go i G' H' g2 hs'.gh (fun p hp => (hs'.own p (hO _ _ _ _ w p hp)).1) hlt, _, fun σ2 H2 z => ⟨xs.length - (i + 1), by omega, z⟩, fun v H3 y => ?_⟩
    obtain ⟨x, G4, hx, s4, rx⟩ := it.yld i G' H' v H3 g2 hs'.gh (fun p hp => (hs'.own p (hO _ _ _ _ w p hp)).1) hlt y
    have hdrop : xs.drop i = x :: xs.drop (i + 1) := by
      obtain ⟨h1, h2⟩ := List.getElem?_eq_some_iff.mp hx
      rw [List.drop_eq_getElem_cons h1, h2]
    rw [hdrop] at q'
    refine tg G4 H3 v x _ _ s4.gh rx fun vs rvs => ?_
    refine hb x s' σ' G1 G4 O' H3 vs _ (fun t => ((match t with | .nx s' => forB f (xs.drop (i + 1)) s' | .bk s' => .ok (.nx s') | .rt r => .ok (.rt r)).bind mk).wp Q fm.xw) ((s.gg.trans g2).trans s4.gg) w (g1.trans s4.gg) (hs'.stp s4) rvs ⟨?_, ?_, ?_, ?_⟩ (Res.wp_bind (by
      have := q'
      rw [forB] at this
      cases hx : f x s' with
      | ok a => rw [hx] at this; exact this
      | exc c fs => rw [hx] at this; exact this
      | stuck => rw [hx] at this; exact this))
    · exact fun s5 σ5 G5 G6 O5 H5 a b c d e => ⟨rfl, hlt, s5, G5, G6, O5, (g2.trans s4.gg).trans a, b, c, d, e⟩
    · exact fun s5 σ5 G5 G6 O5 H5 a b c d e => ⟨rfl, hlt, s5, G5, G6, O5, (g2.trans s4.gg).trans a, b, c, d, e⟩
    · exact fun s5 σ5 G5 G6 O5 H5 a b c d e => hn s5 σ5 G5 G6 O5 H5 (((s.gg.trans g2).trans s4.gg).trans a) b c d e
    · exact fun r v G5 O5 H5 a b c => hr r v G5 O5 H5 a b c
  · have ei : i = xs.length := by omega
    subst ei
    rw [List.drop_length] at q'
    exact .inl ⟨it.stop G' H' g2 hs'.gh (fun p hp => (hs'.own p (hO _ _ _ _ w p hp)).1), hn s' σ' G1 G' O' H' (s.gg.trans g2) w g1 hs' q'⟩
/-- a loop that neither breaks nor returns -/
structure MEnds {S : Type} (fm : Fm) (G : Hp) (W : S → L2.St → Hp → Own → Prop) (Qb : S → Prop) (D : Ends) : Prop where
  nx : ∀ s σ G1 G2 O H, Same G G2 → W s σ G1 O → Same G1 G2 → Hs fm G2 O H → Qb s → D.nx σ H
  ct : ∀ s σ G1 G2 O H, Same G G2 → W s σ G1 O → Same G1 G2 → Hs fm G2 O H → Qb s → D.ct σ H
theorem s_forM {Oi : Own} {S : Type} {ti : TI} {g : TG} {Ss : Rps α} {is : List Nat} {m : Res (List α)} {f : α → S → Res S} {mk : S → Res ρ} {s0 : S} (W : S → L2.St → Hp → Own → Prop)
    (hi : EvI K fm ti σ G O Oi R m) (hO : ∀ s σ G O, W s σ G O → ∀ p ∈ Oi, p ∈ O) (tg : Tgt K g R Ss is) (hs : Hs fm G O H) (hm : ((m.bind fun xs => forM f xs s0).bind mk).wp Q fm.xw) (h0 : W s0 σ G O)
    (hb : ∀ x s σ' G1 G' O' H' vs (D' : Ends) (Qb : S → Prop), Same G G' → W s σ' G1 O' → Same G1 G' → Hs fm G' O' H' → Ss.r K G' vs x → MEnds fm G' W Qb D' → (f x s).wp Qb fm.xw → tw D' (setL σ' is vs) H')
    (hn : ∀ s σ' G1 G' O' H', Same G G' → W s σ' G1 O' → Same G1 G' → Hs fm G' O' H' → (mk s).wp Q fm.xw → tr D σ' H') : tSeq (tFor ti g tw) tr D σ H := by
  have key : ∀ (xs : List α) (s : S), ((forB (ρ := Unit) (fun x s => (f x s).bind fun s => .ok (.nx s)) xs s).bind fun | .nx s => mk s | .rt _ => .stuck) = (forM f xs s).bind mk := by
    intro xs
    induction xs with
    | nil => intro s; rfl
    | cons x xs ih =>
      intro s
      rw [forB, forM]
      cases hx : f x s with
      | ok a => simp only [Res.bind_ok]; exact ih a
      | exc c fs => rfl
      | stuck => rfl
  refine s_forB (π := Unit) (Rr := rN) (f := fun x s => (f x s).bind fun s => .ok (.nx s)) (mk := fun | .nx s => mk s | .rt _ => .stuck) (s0 := s0) W hi hO tg hs ?_ h0 (fun x s σ' G1 G' O' H' vs D' Qb a b c d e E q => ?_) hn (fun r v G2 O2 H2 _ _ z => z.elim)
  · cases hx : m with
    | ok xs => rw [hx] at hm; simp only [Res.bind_ok] at hm ⊢; rw [key]; exact hm
    | exc c fs => rw [hx] at hm; exact hm
    | stuck => rw [hx] at hm; exact hm
  · exact hb x s σ' G1 G' O' H' vs D' (fun s => Qb (.nx s)) a b c d e ⟨E.nx, E.ct⟩ (Res.wp_bind q)
/-- while -/
def whB {S ρ : Type} (c : S → Res Bool) (f : S → Res (Tn S ρ)) : Nat → S → Res (Lp S ρ)
  | 0, _ => .stuck
  | n + 1, s => (c s).bind fun b => if b = true then (f s).bind fun t => match t with | .nx s' => whB c f n s' | .bk s' => .ok (.nx s') | .rt r => .ok (.rt r) else .ok (.nx s)
theorem s_whB {S : Type} {Sr : Type} {Rr : Rp Sr} {c : TT} {mc : S → Res Bool} {f : S → Res (Tn S Sr)} {mk : Lp S Sr → Res ρ} {s0 : S} {fuel : Nat} (W : S → L2.St → Hp → Own → Prop)
    (hs : Hs fm G O H) (hm : ((whB mc f fuel s0).bind mk).wp Q fm.xw) (h0 : W s0 σ G O)
    (hc : ∀ s σ' G1 G' O', Same G G' → W s σ' G1 O' → Same G1 G' → EvT fm c σ' G' O' (mc s))
    (hb : ∀ s σ' G1 G' O' H' (D' : Ends) (Qb : Tn S Sr → Prop), Same G G' → W s σ' G1 O' → Same G1 G' → Hs fm G' O' H' → TEnds K fm G' W Rr Qb D' → (f s).wp Qb fm.xw → tw D' σ' H')
    (hn : ∀ s σ' G1 G' O' H', Same G G' → W s σ' G1 O' → Same G1 G' → Hs fm G' O' H' → (mk (.nx s)).wp Q fm.xw → tr D σ' H')
    (hr : ∀ r v G2 O2 H2, Hs fm G2 O2 H2 → Rr.r K G2 v r → (mk (.rt r)).wp Q fm.xw → D.rt v H2) : tSeq (tWhile c tw) tr D σ H := by
  refine ⟨fun mm σ' H' => ∃ s' G1 G' O', Same G G' ∧ W s' σ' G1 O' ∧ Same G1 G' ∧ Hs fm G' O' H' ∧ ((whB mc f mm s').bind mk).wp Q fm.xw, ⟨fuel, s0, G, G, O, Same.refl _, h0, Same.refl _, hs, hm⟩, ?_⟩
  rintro mm σ' H' ⟨s', G1, G', O', g, w, g1, hs', q'⟩
  cases mm with
  | zero => exact q'.elim
  | succ mm =>
    have q1 : (mc s').wp (fun b => ((if b = true then (f s').bind fun t => match t with | .nx s' => whB mc f mm s' | .bk s' => .ok (.nx s') | .rt r => .ok (.rt r) else .ok (.nx s')).bind mk).wp Q fm.xw) fm.xw := by
      rw [whB] at q'
      cases hx : mc s' with
      | ok a => rw [hx] at q'; exact q'
      | exc c fs => rw [hx] at q'; exact q'
      | stuck => rw [hx] at q'; exact q'
    refine hc s' σ' G1 G' O' g w g1 G' H' (Same.refl _) hs'.kn _ (Res.wp_mono q1 (fun b q2 G2 H2 s2 => ?_) fun _ _ z => z)
    cases b with
    | true =>
      refine iteT ⟨_, fun σ2 H2 z => ⟨mm, Nat.lt_succ_self _, z⟩, ?_⟩
      rw [if_pos rfl] at q2
      refine hb s' σ' G1 G2 O' H2 _ (fun t => ((match t with | .nx s' => whB mc f mm s' | .bk s' => .ok (.nx s') | .rt r => .ok (.rt r)).bind mk).wp Q fm.xw) (g.trans s2.gg) w (g1.trans s2.gg) (hs'.stp s2) ⟨?_, ?_, ?_, ?_⟩ (Res.wp_bind (by
        cases hx : f s' with
        | ok a => rw [hx] at q2; exact q2
        | exc c fs => rw [hx] at q2; exact q2
        | stuck => rw [hx] at q2; exact q2))
      · exact fun s5 σ5 G5 G6 O5 H5 a b c d e => ⟨s5, G5, G6, O5, (g.trans s2.gg).trans a, b, c, d, e⟩
      · exact fun s5 σ5 G5 G6 O5 H5 a b c d e => ⟨s5, G5, G6, O5, (g.trans s2.gg).trans a, b, c, d, e⟩
      · exact fun s5 σ5 G5 G6 O5 H5 a b c d e => hn s5 σ5 G5 G6 O5 H5 ((g.trans s2.gg).trans a) b c d e
      · exact fun r v G5 O5 H5 a b c => hr r v G5 O5 H5 a b c
    | false =>
      refine iteF ?_
      rw [if_neg Bool.false_ne_true] at q2
      exact hn s' σ' G1 G2 O' H2 (g.trans s2.gg) w (g1.trans s2.gg) (hs'.stp s2) q2
end
end Mw

namespace Mw
open PySem PySem.Spec PyProof.Rows L2
section
variable {α β γ δ ρ : Type} {K : PySem.W.Frag} {fm : Fm} {σ : L2.St} {G G' H H' : Hp} {O : Own}
variable {te ta tb tc : TE} {R : Rp α} {S : Rp β} {T : Rp γ} {m : Res α} {n : Res β}

/-! ### where two ways meet again -/
structure JEnds {J : Type} (fm : Fm) (G : Hp) (W : J → L2.St → Hp → Own → Prop) (Qb : J → Prop) (N : L2.St → Hp → Prop) : Prop where
  nx : ∀ s σ G1 G2 O H, Same G G2 → W s σ G1 O → Same G1 G2 → Hs fm G2 O H → Qb s → N σ H
variable {D : Ends} {tr tt tu tw : TS} {Q : ρ → Prop}
theorem s_ifJ {J : Type} {c : TT} {mc : Res Bool} {a b : Res ρ} {k : J → Res ρ} (W : J → L2.St → Hp → Own → Prop) (hc : EvT fm c σ G O mc) (hs : Hs fm G O H) (hm : (Res.ite mc a b).wp Q fm.xw)
    (hk : ∀ s σ' G1 G' O' H', Same G G' → W s σ' G1 O' → Same G1 G' → Hs fm G' O' H' → (k s).wp Q fm.xw → tr D σ' H')
    (h1 : ∀ G' H', JEnds fm G' W (fun s => (k s).wp Q fm.xw) (tr D) → Same G G' → Hs fm G' O H' → a.wp Q fm.xw → tt { D with nx := tr D } σ H')
    (h2 : ∀ G' H', JEnds fm G' W (fun s => (k s).wp Q fm.xw) (tr D) → Same G G' → Hs fm G' O H' → b.wp Q fm.xw → tu { D with nx := tr D } σ H') : tSeq (tIfS c tt tu) tr D σ H :=
  s_if hc hs hm (fun G' H' e hs' q => h1 G' H' ⟨fun s σ G1 G2 O H a b c d e' => hk s σ G1 G2 O H (e.trans a) b c d e'⟩ e hs' q) fun G' H' e hs' q => h2 G' H' ⟨fun s σ G1 G2 O H a b c d e' => hk s σ G1 G2 O H (e.trans a) b c d e'⟩ e hs' q

/-! ### rK: more -/
def qK [DecidableEq α] (q : Qd R) : Qd (rK R) where
  dat xs := .list (xs.map q.dat)
  dp {K G v x} h := (qL q).dp (rK_rL h)
  lay := (qL q).lay
  dep := q.dep + 1
  dle := (qL q).dle
  eqv := (qL q).eqv
  nn := true
  nnd _ _ h := nomatch h
theorem n_rep {m : Res (List α)} {n : Res Int} (ha : EvE K fm ta σ G O (rK R) m) (hb : EvE K fm tb σ G O zI n) : EvN K fm (tOp rRep ta tb) σ G O R (repM m n) := fun G1 H1 e k Q q =>
  ha G1 H1 e k _ (Res.wp_mono (Res.wp_bind q) (fun x q u G2 H2 s ru =>
    hb G2 H2 (e.trans s.gg) (k.stp s) _ (Res.wp_mono (Res.wp_bind q) (fun y q v G3 H3 s' rv => by
      obtain ⟨p, vs, e1, h1, r1⟩ := ru
      cases (show v = .int y from rv)
      cases hl : (decide (-(2 ^ 63) ≤ y) && decide (y < 2 ^ 63) && decide (x.length * y.toNat ≤ lim)) with
      | true =>
        rw [repF, hl, if_pos rfl] at q
        simp only [Bool.and_eq_true, decide_eq_true_eq] at hl
        exact ⟨p, y, vs, e1, rfl, s'.gh _ _ (s'.gg _ _ h1), hl.1.1, hl.1.2, by rw [Paired.length r1, ← lim_eq]; exact hl.2, fun l hl =>
          q l _ G3 _ ((s.trans s').trans (Stp.grow s'.gh (same_new hl))) (same_back (s.trans s').hh hl) (same_back s'.gh hl) upd_same (paired_rep (r1.mono s'.gg) _)⟩
      | false => rw [repF, hl] at q; exact q.elim) fun _ _ z => z)) fun _ _ z => z)
theorem rls_some (nn : Nn R) {vs : List V} {xs : List α} (r : RLs R K G vs xs) : RLs (rO R) K G vs (xs.map some) := by
  induction r with
  | nil => exact .nil
  | cons r t ih => exact .cons ⟨nn _ _ _ _ r, r⟩ ih
/-- list[int] as list[int or None] and back -/
theorem e_mapSome (nn : Nn R) {m : Res (List α)} (h : EvE K fm te σ G O (rK R) m) : EvE K fm te σ G O (rK (rO R)) (m.bind fun xs => .ok (xs.map some)) := fun G1 H1 e k Q q =>
  h G1 H1 e k _ (Res.wp_mono (Res.wp_bind q) (fun xs q v G2 H2 s ⟨p, vs, e1, h1, r1⟩ => q v G2 H2 s ⟨p, vs, e1, h1, rls_some nn r1⟩) fun _ _ z => z)
def allSome {α : Type} : List (Option α) → Option (List α)
  | [] => some []
  | none :: _ => none
  | some a :: xs => match allSome xs with | some ys => some (a :: ys) | none => none
theorem allSome_map {α : Type} : ∀ xs : List α, allSome (xs.map some) = some xs
  | [] => rfl
  | x :: xs => by rw [List.map_cons, allSome, allSome_map xs]
theorem allSome_rls {vs : List V} {xs : List (Option α)} {ys : List α} (r : RLs (rO R) K G vs xs) (h : allSome xs = some ys) : RLs R K G vs ys := by
  induction r generalizing ys with
  | nil => cases h; exact .nil
  | @cons v x vs xs r t ih =>
    cases x with
    | none => cases h
    | some a =>
      rw [allSome] at h
      cases hx : allSome xs with
      | none => rw [hx] at h; cases h
      | some zs => rw [hx] at h; cases h; exact .cons r.2 (ih hx)
theorem e_mapGet {m : Res (List (Option α))} (h : EvE K fm te σ G O (rK (rO R)) m) : EvE K fm te σ G O (rK R) (m.bind fun xs => optM (allSome xs)) := fun G1 H1 e k Q q =>
  h G1 H1 e k _ (Res.wp_mono (Res.wp_bind q) (fun xs q v G2 H2 s ⟨p, vs, e1, h1, r1⟩ => by
    cases hx : allSome xs with
    | none => rw [hx] at q; exact q.elim
    | some ys => rw [hx] at q; exact q v G2 H2 s ⟨p, vs, e1, h1, allSome_rls r1 hx⟩) fun _ _ z => z)

/-! ### range objects -/
def rR : Rp (Int × Int) := ⟨fun _ G v a => ∃ p, v = .ref p ∧ G p = some (.rng a.1 a.2), fun e ⟨p, a, b⟩ => ⟨p, a, e _ _ b⟩⟩
theorem cr_range1 {X : Cx} : CallR X (.type "range") (fun vs H Q => ∃ j, vs = [V.int j] ∧ ∀ p, H p = none → Q (.ref p) (upd H p (.rng 0 j))) := by
  intro pins s σ H xs us Q I r h
  obtain ⟨j, rfl, q⟩ := h
  cases r with
  | cons r rr =>
    cases rr
    obtain ⟨t, rfl⟩ := r
    refine call_range_1 ⟨.ref s.heap.objs.size, upd H s.heap.objs.size (.rng 0 j), I.laid (t' := s.toks + 1 + 1) (fun b o e => Heap.get?_push_of_some _ e) (Nat.le_refl _) ?_, rfl, q _ (I.hok.fresh (Nat.le_refl _))⟩
    exact ⟨_, _, _, Heap.get?_push_size _ rfl⟩
theorem e_range1 {a : Res Int} (h : EvE K fm te σ G O zI a) : EvE K fm (tCB (fun vs H Q => ∃ j, vs = [V.int j] ∧ ∀ p, H p = none → Q (.ref p) (upd H p (.rng 0 j))) (tCons te tNil)) σ G O rR (a.bind fun j => .ok (0, j)) :=
  e_cb (a_one h) fun G1 H1 x vs k ⟨v, ev, r⟩ Q q => by
    subst ev; cases (show v = .int x from r)
    exact ⟨x, rfl, fun p hp => q _ _ _ (Stp.new k.gh hp) ⟨p, rfl, upd_same⟩⟩
def iRngO (te : TE) : TI := fun σ H R => te σ H fun x H1 => ∃ p lo hi, x = .ref p ∧ H1 p = some (.rng lo hi) ∧ -(2 ^ 62) ≤ lo ∧ lo < 2 ^ 62 ∧ -(2 ^ 62) ≤ hi ∧ hi < 2 ^ 62 ∧ R (Itr lo (hi - lo).toNat) H1
theorem pi_rngO {X : Cx} {tg e : Expr} (he : PE X e te) : PI X tg e (iRngO te) := by
  refine ⟨fun pins s σ H R I h => ?_⟩
  refine thn (he.run pins s σ H _ I h) fun v s1 ⟨x, H1, I1, r1, q1⟩ => ?_
  obtain ⟨p, lo, hi, e1, hp, h1, h2, h3, h4, q⟩ := q1
  subst e1
  cases r1
  obtain ⟨t, u, w, hg⟩ := I1.hok p _ hp
  refine wpAny_pyIter_range (r := p) (show IsRange s1.heap p lo hi 1 t u w from hg) (small_one h1 h2 h3 h4) ?_
  refine ⟨s1.heap.objs.size, [s1.heap.objs.size], _, _, H1, rfl, I1.kept (t' := s1.toks) fun b o e => Heap.get?_push_of_some _ e, turn_range _ lo (hi - lo).toNat, ?_, fun b hb => ?_, q⟩
  · have e1 : lo + ((0 : Nat) : Int) * 1 = lo := by simp
    have e2 : (((hi - lo).toNat : Nat) : Int) - ((0 : Nat) : Int) = Builtin.Range.rangeSize lo hi 1 := by rw [rangeSize_one]; split <;> omega
    show IsRangeIter _ _ (lo + ((0 : Nat) : Int) * 1) ((((hi - lo).toNat : Nat) : Int) - ((0 : Nat) : Int)) 1
    rw [e1, e2]
    exact Heap.get?_push_size _ rfl
  · have e : b = s1.heap.objs.size := by simpa using hb
    subst e
    exact I1.fpOk (Nat.le_refl _) (I1.hok.fresh (Nat.le_refl _))
def rngOM (a : Res (Int × Int)) : Res (List Int) := a.bind fun p => if (inR p.1 && inR p.2) = true then .ok (rgL p.1 (p.2 - p.1).toNat) else .stuck
theorem i_rngO {a : Res (Int × Int)} (h : EvE K fm te σ G O rR a) : EvI K fm (iRngO te) σ G O [] zI (rngOM a) := fun G1 H1 e k Q q =>
  h G1 H1 e k _ (Res.wp_mono (Res.wp_bind q) (fun x q v G2 H2 s ⟨p, ev, hp⟩ => by
    cases hj : (inR x.1 && inR x.2) with
    | false => rw [hj] at q; exact q.elim
    | true =>
      rw [hj, if_pos rfl] at q
      simp only [inR, Bool.and_eq_true, decide_eq_true_eq] at hj
      exact ⟨p, x.1, x.2, ev, s.gh _ _ hp, hj.1.1, hj.1.2, hj.2.1, hj.2.2, q _ G2 H2 s (itr_ok x.1 _)⟩) fun _ _ z => z)

/-! ### isinstance, answers that the kind of the value tells -/
/-- of what class the value is, by the representation -/
def TyIs (K : PySem.W.Frag) (R : Rp α) (f : α → String) : Prop := ∀ G H v x, Same G H → R.r K G v x → TyX K H v (.type (f x))
theorem rd_ty {H : Hp} {p : Addr} {vs : List V} (h : SqL K H p vs) : TyX K H (.ref p) (.type "list") := by
  rcases h with (h | ⟨o, h⟩) | ⟨o, its, n, h, hc, _⟩
  · exact .base (.lst h)
  · exact .base (.frz h)
  · exact .kList h hc
theorem rd_tyT {H : Hp} {p : Addr} {vs : List V} (h : SqT K H p vs) : TyX K H (.ref p) (.type "tuple") := by
  rcases h with (h | ⟨o, h⟩) | ⟨o, its, n, h, hc, _⟩
  · exact .base (.tup h)
  · exact .fTuple h
  · exact .kTuple h hc
theorem ty_I : TyIs K zI fun _ => "int" := fun G H v x e h => by cases (show v = .int x from h); exact .base (.int x)
theorem ty_B : TyIs K rB fun _ => "bool" := fun G H v x e h => by cases (show v = .bl x from h); exact .base (.bl x)
theorem ty_S : TyIs K rS fun _ => "str" := fun G H v x e h => by cases (show v = .str x from h); exact .base (.str x)
theorem ty_OI : TyIs K (rO zI) fun o => match o with | none => "NoneType" | some _ => "int" := fun G H v x e h => by
  cases x with
  | none => cases (show v = .non from h); exact .base .non
  | some a => cases (show v = .int a from h.2); exact .base (.int a)
theorem ty_K : TyIs K (rK R) fun _ => "list" := fun G H v x e ⟨p, vs, ev, h, _⟩ => by subst ev; exact .base (.lst (e _ _ h))
theorem ty_L : TyIs K (rL R) fun _ => "list" := fun G H v x e ⟨p, vs, ev, h, _⟩ => by subst ev; exact rd_ty (same_l e h)
theorem ty_T : TyIs K (rT R) fun _ => "tuple" := fun G H v x e ⟨p, vs, ev, h, _⟩ => by subst ev; exact rd_tyT (same_t e h)
theorem ty_P {S : Rps α} : TyIs K (rP S) fun _ => "tuple" := fun G H v x e ⟨p, vs, ev, h, _⟩ => by subst ev; exact rd_tyT (same_t e h)
theorem e_isi {f : α → String} {c : String} {g : α → Bool} (ty : TyIs K R f) (hg : ∀ x, kitB (f x) c = some (g x)) (h : EvE K fm te σ G O R m) :
    EvE K fm (tCB (rIsi K) (tCons te (tCons (tC (.ty c)) tNil))) σ G O rB (m.bind fun x => .ok (g x)) := fun G1 H1 e k Q q =>
  h G1 H1 e k _ (Res.wp_mono (Res.wp_bind q) (fun x q v G2 H2 s r => ⟨v, .ty c, .type (f x), .type c, g x, rfl, .ty c, ty _ _ _ _ s.gh r, kit_ty (hg x), q _ G2 H2 s rfl⟩) fun _ _ z => z)

/-! ### list.index -/
def indexF {α : Type} [DecidableEq α] (xs : List α) (x : α) : Res Int := if xs.findIdx (fun y => decide (y = x)) < xs.length then .ok ((xs.findIdx fun y => decide (y = x)) : Nat) else .stuck
def indexM {α : Type} [DecidableEq α] : Res (List α) → Res α → Res Int := Res.bind2 indexF
theorem e_index [DecidableEq α] (s : Sr R) {m : Res (List α)} {n : Res α} (ha : EvE K fm ta σ G O (rL R) m) (hb : EvE K fm tb σ G O R n) : EvE K fm (tBM K "list" (rIndex K) ta (tCons tb tNil)) σ G O zI (indexM m n) := fun G1 H1 e k Q q =>
  ha G1 H1 e k _ (Res.wp_mono (Res.wp_bind q) (fun xs q v G2 H2 s2 ⟨p, vs, ev, hq, rs⟩ => by
    subst ev
    refine ⟨.inl ⟨rfl, vs, same_l s2.gh hq⟩, ?_⟩
    refine hb G2 H2 (e.trans s2.gg) (k.stp s2) _ (Res.wp_mono (Res.wp_bind q) (fun y q w G3 H3 s3 rw => ?_) fun _ _ z => z)
    cases s.is rw; cases sr_vals s rs
    rw [indexF] at q
    split at q
    · rename_i hl
      refine ⟨p, _, s.enc y, xs.findIdx (fun z => decide (z = y)), s.enc (xs[xs.findIdx (fun z => decide (z = y))]), rfl, rfl, same_l s3.hh (same_l s2.gh hq), s.fl y, sr_all s xs, by simp [hl], ?_, ?_, q _ G3 H3 (s2.trans s3) rfl⟩
      · rw [s.eq]; exact List.findIdx_getElem (w := hl)
      · intro mm z hmm hz
        rw [List.getElem?_map] at hz
        have hl' : mm < xs.length := Nat.lt_trans hmm hl
        rw [List.getElem?_eq_getElem hl'] at hz
        cases hz
        rw [s.eq]
        have := List.not_of_lt_findIdx hmm
        simpa using this
    · exact q.elim) fun _ _ z => z)
end
end Mw

namespace Mw
open PySem PySem.Spec PyProof.Rows L2
def appM {α ρ : Type} (xs : List α) (m : Res α) (mk : List α → Res ρ) : Res ρ := m.bind fun y => if xs.length < lim then mk (xs ++ [y]) else .stuck
theorem appM_ok {α ρ : Type} (xs : List α) (y : α) (mk : List α → Res ρ) (h : xs.length < lim) : appM xs (.ok y) mk = mk (xs ++ [y]) := by
  show (if xs.length < lim then mk (xs ++ [y]) else .stuck) = _
  rw [if_pos h]
def setM {α ρ : Type} (xs : List α) (n : Res Int) (m : Res α) (mk : List α → Res ρ) : Res ρ := m.bind fun y => n.bind fun z => (setF xs z y).bind mk
def augM {ρ : Type} (f : Int → Int → Int) (x : Int) (m : Res Int) (mk : Int → Res ρ) : Res ρ := m.bind fun y => mk (f x y)
def Lp.el {S π ρ : Type} (N : S → Res ρ) (R : π → Res ρ) : Lp S π → Res ρ
  | .nx s => N s
  | .rt r => R r
section
variable {α β γ δ ρ : Type} {K : PySem.W.Frag} {fm : Fm} {σ : L2.St} {G G' H H' : Hp} {O : Own}
variable {te ta tb tc : TE} {R : Rp α} {S : Rp β} {T : Rp γ} {m : Res α} {n : Res β}
variable {D : Ends} {tr tt tu tw : TS} {Q : ρ → Prop}
theorem g_ret0 (he : EvE K fm te σ G O R m) (hs : Hs fm G O H) {Q : α → Prop} (hm : m.wp Q fm.xw)
    (k : ∀ r v G' H', Hs fm G' O H' → R.r K G' v r → Q r → D.rt v H') : tSeq (tRet te) tr D σ H :=
  he G H (Same.refl _) hs.kn _ (Res.wp_mono hm (fun x q v G2 H2 s r => k x v G2 H2 (hs.stp s) r q) fun _ _ z => z)
theorem Hs.ne (h : Hs fm G O H) (i j : Nat) {a b : Addr} {o u : HO} (hi : O[i]? = some (a, o)) (hj : O[j]? = some (b, u)) (hij : i ≠ j) : b ≠ a := fun e => hij (nodup_at h.nd hi hj e.symm)
theorem Hs.none2 (h : Hs fm G O H) (i j : Nat) {a b : Addr} {o u : HO} (hi : O[i]? = some (a, o)) (hj : O[j]? = some (b, u)) (hij : i ≠ j) : upd G a o b = none := by
  rw [upd_ne (h.ne i j hi hj hij)]
  exact (h.at j hj).2.1
theorem nx_of (h : D.nx σ H) : tNext D σ H := h
theorem s_pass (h : tr D σ H) : tSeq tNext tr D σ H := h
theorem g_app {i : Nat} (j : Nat) {l : Addr} {vs : List V} {xs : List α} {m : Res α} {mk : List α → Res ρ} (hx : σ[i]? = some (some (.ref l))) (hj : O[j]? = some (l, .lst vs)) (hr : RLs R K G vs xs) (he : EvE K fm te σ G O R m) (hs : Hs fm G O H)
    (hm : (appM xs m mk).wp Q fm.xw)
    (k : ∀ y v G' H', Same G G' → Hs fm G' (O.set j (l, .lst (vs ++ [v]))) H' → RLs R K G' (vs ++ [v]) (xs ++ [y]) → (mk (xs ++ [y])).wp Q fm.xw → tr D σ H') : tSeq (tDrop (tBM K "list" rAppend (tVar i) (tCons te tNil))) tr D σ H := s_append j hx hj hr he hs hm k
theorem g_set {i : Nat} (j : Nat) {l : Addr} {vs : List V} {xs : List α} {m : Res α} {n : Res Int} {mk : List α → Res ρ} (hx : σ[i]? = some (some (.ref l))) (hj : O[j]? = some (l, .lst vs)) (hr : RLs R K G vs xs) (he : EvE K fm te σ G O R m) (hi : EvE K fm ta σ G O zI n) (hs : Hs fm G O H)
    (hm : (setM xs n m mk).wp Q fm.xw)
    (k : ∀ ys ws G' H', Same G G' → Hs fm G' (O.set j (l, .lst ws)) H' → RLs R K G' ws ys → (mk ys).wp Q fm.xw → tr D σ H') : tSeq (tAsg te (gSub (tVar i) ta rSetL)) tr D σ H := s_setL j hx hj hr he hi hs hm k
theorem g_aug {i : Nat} {f : Int → Int → Int} {x : Int} {m : Res Int} {mk : Int → Res ρ} (hx : σ[i]? = some (some (.int x))) (he : EvE K fm te σ G O zI m) (hs : Hs fm G O H) (hm : (augM f x m mk).wp Q fm.xw)
    (k : ∀ y G' H', Same G G' → Hs fm G' O H' → (mk (f x y)).wp Q fm.xw → tr D (σ.set i (some (.int (f x y)))) H') : tSeq (tAug i te (ipI f)) tr D σ H := s_aug hx he hs hm k
theorem g_forB {Oi : Own} {S : Type} {Sr : Type} {Rr : Rp Sr} {ti : TI} {g : TG} {Ss : Rps α} {is : List Nat} {m : Res (List α)} {f : α → S → Res (Tn S Sr)} {N : S → Res ρ} {Rt : Sr → Res ρ} {s0 : S} (W : S → L2.St → Hp → Own → Prop)
    (hi : EvI K fm ti σ G O Oi R m) (hO : ∀ s σ G O, W s σ G O → ∀ p ∈ Oi, p ∈ O) (tg : Tgt K g R Ss is) (hs : Hs fm G O H) (hm : ((m.bind fun xs => forB f xs s0).bind (Lp.el N Rt)).wp Q fm.xw) (h0 : W s0 σ G O)
    (hr : ∀ r v G2 O2 H2, Hs fm G2 O2 H2 → Rr.r K G2 v r → (Rt r).wp Q fm.xw → D.rt v H2)
    (hb : ∀ x s σ' G1 G' O' H' vs (D' : Ends) (Qb : Tn S Sr → Prop), Same G G' → W s σ' G1 O' → Same G1 G' → Hs fm G' O' H' → Ss.r K G' vs x → TEnds K fm G' W Rr Qb D' → (f x s).wp Qb fm.xw → tw D' (setL σ' is vs) H')
    (hn : ∀ s σ' G1 G' O' H', Same G G' → W s σ' G1 O' → Same G1 G' → Hs fm G' O' H' → (N s).wp Q fm.xw → tr D σ' H') : tSeq (tFor ti g tw) tr D σ H :=
  s_forB (π := Unit) W hi hO tg hs hm h0 hb hn hr
theorem g_forM {Oi : Own} {S : Type} {ti : TI} {g : TG} {Ss : Rps α} {is : List Nat} {m : Res (List α)} {f : α → S → Res S} {mk : S → Res ρ} {s0 : S} (W : S → L2.St → Hp → Own → Prop)
    (hi : EvI K fm ti σ G O Oi R m) (hO : ∀ s σ G O, W s σ G O → ∀ p ∈ Oi, p ∈ O) (tg : Tgt K g R Ss is) (hs : Hs fm G O H) (hm : ((m.bind fun xs => forM f xs s0).bind mk).wp Q fm.xw) (h0 : W s0 σ G O)
    (hb : ∀ x s σ' G1 G' O' H' vs (D' : Ends) (Qb : S → Prop), Same G G' → W s σ' G1 O' → Same G1 G' → Hs fm G' O' H' → Ss.r K G' vs x → MEnds fm G' W Qb D' → (f x s).wp Qb fm.xw → tw D' (setL σ' is vs) H')
    (hn : ∀ s σ' G1 G' O' H', Same G G' → W s σ' G1 O' → Same G1 G' → Hs fm G' O' H' → (mk s).wp Q fm.xw → tr D σ' H') : tSeq (tFor ti g tw) tr D σ H := s_forM W hi hO tg hs hm h0 hb hn
theorem g_whB {S : Type} {Sr : Type} {Rr : Rp Sr} {c : TT} {mc : S → Res Bool} {f : S → Res (Tn S Sr)} {N : S → Res ρ} {Rt : Sr → Res ρ} {s0 : S} {fuel : Nat} (W : S → L2.St → Hp → Own → Prop)
    (hs : Hs fm G O H) (hm : ((whB mc f fuel s0).bind (Lp.el N Rt)).wp Q fm.xw) (h0 : W s0 σ G O)
    (hr : ∀ r v G2 O2 H2, Hs fm G2 O2 H2 → Rr.r K G2 v r → (Rt r).wp Q fm.xw → D.rt v H2)
    (hc : ∀ s σ' G1 G' O', Same G G' → W s σ' G1 O' → Same G1 G' → EvT fm c σ' G' O' (mc s))
    (hb : ∀ s σ' G1 G' O' H' (D' : Ends) (Qb : Tn S Sr → Prop), Same G G' → W s σ' G1 O' → Same G1 G' → Hs fm G' O' H' → TEnds K fm G' W Rr Qb D' → (f s).wp Qb fm.xw → tw D' σ' H')
    (hn : ∀ s σ' G1 G' O' H', Same G G' → W s σ' G1 O' → Same G1 G' → Hs fm G' O' H' → (N s).wp Q fm.xw → tr D σ' H') : tSeq (tWhile c tw) tr D σ H := s_whB W hs hm h0 hc hb hn hr
end

/-! ### the same over a word that is not opened by itself -/
theorem Wp.ofSp {α : Type} {m : Res α} {Q : α → Prop} {F G0 : Hp} {E : XK} {cl : Nat → Addr} (h : Wp m Q fun c fs => ∀ H' d, Same F H' → XdOk fs d H' → E (.ref (cl c)) d H') : Wp m Q (Fm.xw ⟨F, G0, E, cl⟩) := .mk h.out
section
variable {α β γ δ ρ : Type} {K : PySem.W.Frag} {fm : Fm} {σ : L2.St} {G G' H H' : Hp} {O : Own}
variable {te ta tb tc : TE} {R : Rp α} {S : Rp β} {T : Rp γ} {m : Res α} {n : Res β}
variable {D : Ends} {tr tt tu tw : TS} {Q : ρ → Prop}
theorem w_asg {g : TG} {Ss : Rps α} {is : List Nat} {mk : α → Res ρ} (tg : Tgt K g R Ss is) (he : EvE K fm te σ G O R m) (hs : Hs fm G O H) (hm : Wp (m.bind mk) Q fm.xw)
    (k : ∀ x vs G' H', Same G G' → Hs fm G' O H' → Ss.r K G' vs x → Wp (mk x) Q fm.xw → tr D (setL σ is vs) H') : tSeq (tAsg te g) tr D σ H :=
  s_asg tg he hs hm.out fun x vs G' H' a b c d => k x vs G' H' a b c (.mk d)
theorem w_asgN {i : Nat} {m : Res (List α)} {mk : List α → Res ρ} (he : EvN K fm te σ G O R m) (hs : Hs fm G O H) (hm : Wp (m.bind mk) Q fm.xw)
    (k : ∀ xs p vs G' H', Same G G' → Hs fm G' ((p, .lst vs) :: O) H' → RLs R K G' vs xs → Wp (mk xs) Q fm.xw → tr D (σ.set i (some (.ref p))) H') : tSeq (tAsg te (gName i)) tr D σ H :=
  s_asgN he hs hm.out fun x p vs G' H' a b c d => k x p vs G' H' a b c (.mk d)
theorem w_aug {i : Nat} {f : Int → Int → Int} {x : Int} {m : Res Int} {mk : Int → Res ρ} (hx : σ[i]? = some (some (.int x))) (he : EvE K fm te σ G O zI m) (hs : Hs fm G O H) (hm : Wp (augM f x m mk) Q fm.xw)
    (k : ∀ y G' H', Same G G' → Hs fm G' O H' → Wp (mk (f x y)) Q fm.xw → tr D (σ.set i (some (.int (f x y)))) H') : tSeq (tAug i te (ipI f)) tr D σ H :=
  g_aug hx he hs hm.out fun y G' H' a b c => k y G' H' a b (.mk c)
theorem w_drop {mk : α → Res ρ} (he : EvE K fm te σ G O R m) (hs : Hs fm G O H) (hm : Wp (m.bind mk) Q fm.xw)
    (k : ∀ x G' H', Same G G' → Hs fm G' O H' → Wp (mk x) Q fm.xw → tr D σ H') : tSeq (tDrop te) tr D σ H := s_drop he hs hm.out fun x G' H' a b c => k x G' H' a b (.mk c)
theorem w_ret {kr : α → ρ} (he : EvE K fm te σ G O R m) (hs : Hs fm G O H) (hm : Wp (m.bind fun r => .ok (kr r)) Q fm.xw)
    (k : ∀ r v G' H', Hs fm G' O H' → R.r K G' v r → Q (kr r) → D.rt v H') : tSeq (tRet te) tr D σ H := s_ret he hs hm.out k
theorem w_ret0 (he : EvE K fm te σ G O R m) (hs : Hs fm G O H) {Q : α → Prop} (hm : Wp m Q fm.xw)
    (k : ∀ r v G' H', Hs fm G' O H' → R.r K G' v r → Q r → D.rt v H') : tSeq (tRet te) tr D σ H := g_ret0 he hs hm.out k
theorem w_if {c : TT} {mc : Res Bool} {a b : Res ρ} (hc : EvT fm c σ G O mc) (hs : Hs fm G O H) (hm : Wp (Res.ite mc a b) Q fm.xw)
    (h1 : ∀ G' H', Same G G' → Hs fm G' O H' → Wp a Q fm.xw → tt { D with nx := tr D } σ H') (h2 : ∀ G' H', Same G G' → Hs fm G' O H' → Wp b Q fm.xw → tu { D with nx := tr D } σ H') : tSeq (tIfS c tt tu) tr D σ H :=
  s_if hc hs hm.out (fun G' H' a b c => h1 G' H' a b (.mk c)) fun G' H' a b c => h2 G' H' a b (.mk c)
theorem w_ifJ {J : Type} {c : TT} {mc : Res Bool} {a b : Res ρ} {k : J → Res ρ} (W : J → L2.St → Hp → Own → Prop) (hc : EvT fm c σ G O mc) (hs : Hs fm G O H) (hm : Wp (Res.ite mc a b) Q fm.xw)
    (hk : ∀ s σ' G1 G' O' H', Same G G' → W s σ' G1 O' → Same G1 G' → Hs fm G' O' H' → Wp (k s) Q fm.xw → tr D σ' H')
    (h1 : ∀ G' H', JEnds fm G' W (fun s => Wp (k s) Q fm.xw) (tr D) → Same G G' → Hs fm G' O H' → Wp a Q fm.xw → tt { D with nx := tr D } σ H')
    (h2 : ∀ G' H', JEnds fm G' W (fun s => Wp (k s) Q fm.xw) (tr D) → Same G G' → Hs fm G' O H' → Wp b Q fm.xw → tu { D with nx := tr D } σ H') : tSeq (tIfS c tt tu) tr D σ H :=
  w_if hc hs hm (fun G' H' e hs' q => h1 G' H' ⟨fun s σ G1 G2 O H a b c d e' => hk s σ G1 G2 O H (e.trans a) b c d e'⟩ e hs' q) fun G' H' e hs' q => h2 G' H' ⟨fun s σ G1 G2 O H a b c d e' => hk s σ G1 G2 O H (e.trans a) b c d e'⟩ e hs' q
theorem w_app {i : Nat} (j : Nat) {l : Addr} {vs : List V} {xs : List α} {m : Res α} {mk : List α → Res ρ} (hx : σ[i]? = some (some (.ref l))) (hj : O[j]? = some (l, .lst vs)) (hr : RLs R K G vs xs) (he : EvE K fm te σ G O R m) (hs : Hs fm G O H)
    (hm : Wp (appM xs m mk) Q fm.xw)
    (k : ∀ y v G' H', Same G G' → Hs fm G' (O.set j (l, .lst (vs ++ [v]))) H' → RLs R K G' (vs ++ [v]) (xs ++ [y]) → Wp (mk (xs ++ [y])) Q fm.xw → tr D σ H') : tSeq (tDrop (tBM K "list" rAppend (tVar i) (tCons te tNil))) tr D σ H :=
  g_app j hx hj hr he hs hm.out fun y v G' H' a b c d => k y v G' H' a b c (.mk d)
theorem w_set {i : Nat} (j : Nat) {l : Addr} {vs : List V} {xs : List α} {m : Res α} {n : Res Int} {mk : List α → Res ρ} (hx : σ[i]? = some (some (.ref l))) (hj : O[j]? = some (l, .lst vs)) (hr : RLs R K G vs xs) (he : EvE K fm te σ G O R m) (hi : EvE K fm ta σ G O zI n) (hs : Hs fm G O H)
    (hm : Wp (setM xs n m mk) Q fm.xw)
    (k : ∀ ys ws G' H', Same G G' → Hs fm G' (O.set j (l, .lst ws)) H' → RLs R K G' ws ys → Wp (mk ys) Q fm.xw → tr D σ H') : tSeq (tAsg te (gSub (tVar i) ta rSetL)) tr D σ H :=
  g_set j hx hj hr he hi hs hm.out fun y v G' H' a b c d => k y v G' H' a b c (.mk d)
theorem w_forB {Oi : Own} {S : Type} {Sr : Type} {Rr : Rp Sr} {ti : TI} {g : TG} {Ss : Rps α} {is : List Nat} {m : Res (List α)} {f : α → S → Res (Tn S Sr)} {N : S → Res ρ} {Rt : Sr → Res ρ} {s0 : S} (W : S → L2.St → Hp → Own → Prop)
    (hi : EvI K fm ti σ G O Oi R m) (hO : ∀ s σ G O, W s σ G O → ∀ p ∈ Oi, p ∈ O) (tg : Tgt K g R Ss is) (hs : Hs fm G O H) (hm : Wp ((m.bind fun xs => forB f xs s0).bind (Lp.el N Rt)) Q fm.xw) (h0 : W s0 σ G O)
    (hr : ∀ r v G2 O2 H2, Hs fm G2 O2 H2 → Rr.r K G2 v r → (Rt r).wp Q fm.xw → D.rt v H2)
    (hb : ∀ x s σ' G1 G' O' H' vs (D' : Ends) (Qb : Tn S Sr → Prop), Same G G' → W s σ' G1 O' → Same G1 G' → Hs fm G' O' H' → Ss.r K G' vs x → TEnds K fm G' W Rr Qb D' → Wp (f x s) Qb fm.xw → tw D' (setL σ' is vs) H')
    (hn : ∀ s σ' G1 G' O' H', Same G G' → W s σ' G1 O' → Same G1 G' → Hs fm G' O' H' → Wp (N s) Q fm.xw → tr D σ' H') : tSeq (tFor ti g tw) tr D σ H :=
  g_forB W hi hO tg hs hm.out h0 hr (fun x s σ' G1 G' O' H' vs D' Qb a b c d e f g => hb x s σ' G1 G' O' H' vs D' Qb a b c d e f (.mk g)) fun s σ' G1 G' O' H' a b c d e => hn s σ' G1 G' O' H' a b c d (.mk e)
theorem w_forM {Oi : Own} {S : Type} {ti : TI} {g : TG} {Ss : Rps α} {is : List Nat} {m : Res (List α)} {f : α → S → Res S} {mk : S → Res ρ} {s0 : S} (W : S → L2.St → Hp → Own → Prop)
    (hi : EvI K fm ti σ G O Oi R m) (hO : ∀ s σ G O, W s σ G O → ∀ p ∈ Oi, p ∈ O) (tg : Tgt K g R Ss is) (hs : Hs fm G O H) (hm : Wp ((m.bind fun xs => forM f xs s0).bind mk) Q fm.xw) (h0 : W s0 σ G O)
    (hb : ∀ x s σ' G1 G' O' H' vs (D' : Ends) (Qb : S → Prop), Same G G' → W s σ' G1 O' → Same G1 G' → Hs fm G' O' H' → Ss.r K G' vs x → MEnds fm G' W Qb D' → Wp (f x s) Qb fm.xw → tw D' (setL σ' is vs) H')
    (hn : ∀ s σ' G1 G' O' H', Same G G' → W s σ' G1 O' → Same G1 G' → Hs fm G' O' H' → Wp (mk s) Q fm.xw → tr D σ' H') : tSeq (tFor ti g tw) tr D σ H :=
  g_forM W hi hO tg hs hm.out h0 (fun x s σ' G1 G' O' H' vs D' Qb a b c d e f g => hb x s σ' G1 G' O' H' vs D' Qb a b c d e f (.mk g)) fun s σ' G1 G' O' H' a b c d e => hn s σ' G1 G' O' H' a b c d (.mk e)
theorem w_whB {S : Type} {Sr : Type} {Rr : Rp Sr} {c : TT} {mc : S → Res Bool} {f : S → Res (Tn S Sr)} {N : S → Res ρ} {Rt : Sr → Res ρ} {s0 : S} {fuel : Nat} (W : S → L2.St → Hp → Own → Prop)
    (hs : Hs fm G O H) (hm : Wp ((whB mc f fuel s0).bind (Lp.el N Rt)) Q fm.xw) (h0 : W s0 σ G O)
    (hr : ∀ r v G2 O2 H2, Hs fm G2 O2 H2 → Rr.r K G2 v r → (Rt r).wp Q fm.xw → D.rt v H2)
    (hc : ∀ s σ' G1 G' O', Same G G' → W s σ' G1 O' → Same G1 G' → EvT fm c σ' G' O' (mc s))
    (hb : ∀ s σ' G1 G' O' H' (D' : Ends) (Qb : Tn S Sr → Prop), Same G G' → W s σ' G1 O' → Same G1 G' → Hs fm G' O' H' → TEnds K fm G' W Rr Qb D' → Wp (f s) Qb fm.xw → tw D' σ' H')
    (hn : ∀ s σ' G1 G' O' H', Same G G' → W s σ' G1 O' → Same G1 G' → Hs fm G' O' H' → Wp (N s) Q fm.xw → tr D σ' H') : tSeq (tWhile c tw) tr D σ H :=
  g_whB W hs hm.out h0 hr hc (fun s σ' G1 G' O' H' D' Qb a b c d e f => hb s σ' G1 G' O' H' D' Qb a b c d e (.mk f)) fun s σ' G1 G' O' H' a b c d e => hn s σ' G1 G' O' H' a b c d (.mk e)
end
/-- a def as its callers take it -/
structure Cal (P : Program) (w : World) (K : PySem.W.Frag) (mg : Str → Option Value) (base : Heap) (x : Str) (k : Nat) (ps : List Str) (sp : Sp) where
  f : Addr
  fd : FuncData
  ok : FnOk P w K mg base (L2.CX P w) k f fd ps sp
  mgx : mg x = some (.ref f)
  kp : PySem.W.keepIn K (.ref f) = true
  bd : Binds K fd ps []
theorem b_len : bootBuiltins "len" = some (.builtin "len") := by decide +kernel
theorem b_sum : bootBuiltins "sum" = some (.builtin "sum") := by decide +kernel
theorem b_any : bootBuiltins "any" = some (.builtin "any") := by decide +kernel
theorem b_all : bootBuiltins "all" = some (.builtin "all") := by decide +kernel
theorem b_max : bootBuiltins "max" = some (.builtin "max") := by decide +kernel
theorem b_min : bootBuiltins "min" = some (.builtin "min") := by decide +kernel
theorem b_isinstance : bootBuiltins "isinstance" = some (.builtin "isinstance") := by decide +kernel
theorem b_int : bootBuiltins "int" = some (.type "int") := by decide +kernel
theorem b_list : bootBuiltins "list" = some (.type "list") := by decide +kernel
theorem b_tuple : bootBuiltins "tuple" = some (.type "tuple") := by decide +kernel
theorem b_range : bootBuiltins "range" = some (.type "range") := by decide +kernel
theorem b_bool : bootBuiltins "bool" = some (.type "bool") := by decide +kernel
theorem b_str : bootBuiltins "str" = some (.type "str") := by decide +kernel
end Mw
namespace Mw
open PySem L2
theorem isi_OI_int : ∀ x : Option Int, kitB (match x with | none => "NoneType" | some _ => "int") "int" = some x.isSome
  | none => (by decide +kernel : kitB "NoneType" "int" = some false)
  | some _ => (by decide +kernel : kitB "int" "int" = some true)
theorem isi_OI_bool : ∀ x : Option Int, kitB (match x with | none => "NoneType" | some _ => "int") "bool" = some false
  | none => (by decide +kernel : kitB "NoneType" "bool" = some false)
  | some _ => (by decide +kernel : kitB "int" "bool" = some false)
end Mw

namespace Mw
open PySem PySem.Spec PyProof.Rows L2
/-! ### dicts of one's own -/
def dget {κ β : Type} [DecidableEq κ] (xs : List (κ × β)) (k : κ) : Option β := (xs.find? fun p => decide (p.1 = k)).map (·.2)
def dput {κ β : Type} [DecidableEq κ] (xs : List (κ × β)) (k : κ) (v : β) : List (κ × β) := if (xs.any fun p => decide (p.1 = k)) = true then xs.map fun p => if p.1 = k then (p.1, v) else p else xs ++ [(k, v)]
/-- keys that are one of the layer's -/
structure Ke (κ : Type) [DecidableEq κ] where
  enc : κ → Key
  inj : ∀ {a b}, enc a = enc b → a = b
  rp : Rp κ
  is : ∀ {K G v k}, rp.r K G v k ↔ v = kV (enc k)
def keI : Ke Int := ⟨.inl, fun h => Sum.inl.inj h, zI, Iff.rfl⟩
def keS : Ke Str := ⟨.inr, fun h => Sum.inr.inj h, rS, Iff.rfl⟩
section
variable {α β γ δ ρ κ : Type} [DecidableEq κ] {K : PySem.W.Frag} {fm : Fm} {σ : L2.St} {G G' H H' : Hp} {O : Own}
variable {te ta tb tc : TE} {R : Rp α} {S : Rp β} {T : Rp γ} {m : Res α} {n : Res β}
variable {D : Ends} {tr tt tu tw : TS} {Q : ρ → Prop}
abbrev RKs (k : Ke κ) (R : Rp β) (K : PySem.W.Frag) (G : Hp) : List (Key × V) → List (κ × β) → Prop := Paired fun p x => p.1 = k.enc x.1 ∧ R.r K G p.2 x.2
theorem RKs.mono {k : Ke κ} {R : Rp β} {vs : List (Key × V)} {xs : List (κ × β)} (e : Same G G') (h : RKs k R K G vs xs) : RKs k R K G' vs xs := Paired.mapP h fun _ _ q => ⟨q.1, R.mono e q.2⟩
theorem RKs.any {k : Ke κ} {R : Rp β} {vs : List (Key × V)} {xs : List (κ × β)} (h : RKs k R K G vs xs) (y : κ) : (vs.any fun p => decide (p.1 = k.enc y)) = xs.any fun p => decide (p.1 = y) := by
  induction h with
  | nil => rfl
  | cons r t ih => rw [List.any_cons, List.any_cons, ih, r.1]; congr 1; exact decide_eq_decide.mpr ⟨k.inj, fun e => by rw [e]⟩
theorem RKs.get {k : Ke κ} {R : Rp β} {vs : List (Key × V)} {xs : List (κ × β)} (h : RKs k R K G vs xs) (y : κ) :
    match dget xs y with | some b => ∃ v, valV vs (k.enc y) = some v ∧ R.r K G v b | none => valV vs (k.enc y) = none := by
  induction h with
  | nil => rfl
  | @cons p x vs xs r t ih =>
    by_cases e : x.1 = y
    · have : dget (x :: xs) y = some x.2 := by simp [dget, List.find?_cons, e]
      rw [this]
      exact ⟨p.2, valV_pos (r.1.trans (by rw [e])), r.2⟩
    · have : dget (x :: xs) y = dget xs y := by simp [dget, List.find?_cons, e]
      rw [this, valV_neg (fun q => e (k.inj (r.1.symm.trans q)))]
      exact ih
theorem RKs.isSome {k : Ke κ} {R : Rp β} {vs : List (Key × V)} {xs : List (κ × β)} (h : RKs k R K G vs xs) (y : κ) : (valV vs (k.enc y)).isSome = (dget xs y).isSome := by
  have q := h.get y
  cases e : dget xs y with
  | none => rw [e] at q; rw [show valV vs (k.enc y) = none from q]; rfl
  | some b => rw [e] at q; obtain ⟨v, hv, _⟩ := q; rw [hv]; rfl
theorem RKs.rep {k : Ke κ} {R : Rp β} {vs : List (Key × V)} {xs : List (κ × β)} (h : RKs k R K G vs xs) (y : κ) {v : V} {b : β} (r : R.r K G v b) :
    RKs k R K G (vs.map fun p => if p.1 = k.enc y then (p.1, v) else p) (xs.map fun p => if p.1 = y then (p.1, b) else p) := by
  induction h with
  | nil => exact .nil
  | @cons p x vs xs q t ih =>
    refine .cons ?_ ih
    by_cases e : x.1 = y
    · dsimp only; rw [if_pos e, if_pos (q.1.trans (by rw [e]))]; exact ⟨q.1, r⟩
    · dsimp only; rw [if_neg e, if_neg (fun z => e (k.inj (q.1.symm.trans z)))]; exact q
theorem RKs.put {k : Ke κ} {R : Rp β} {vs : List (Key × V)} {xs : List (κ × β)} (h : RKs k R K G vs xs) (y : κ) {v : V} {b : β} (r : R.r K G v b) : RKs k R K G (putK vs (k.enc y) v) (dput xs y b) := by
  unfold putK dput
  rw [h.any y]
  split
  · exact RKs.rep h y r
  · exact paired_app h (.cons ⟨rfl, r⟩ .nil)
/-- {} -/
def EvD (K : PySem.W.Frag) (fm : Fm) (te : TE) (σ : L2.St) (G : Hp) (O : Own) : Prop :=
  ∀ G1 H1, Same G G1 → Kn fm G1 O H1 → ∀ Q : VK, (∀ p G2 H2, Stp G1 H1 G2 H2 → H1 p = none → G2 p = none → H2 p = some (.dK []) → Q (.ref p) H2) → te σ H1 Q
theorem d_new : EvD K fm tDNewK σ G O := fun G1 H1 e k Q q p hp => q p G1 _ (Stp.grow k.gh (same_new hp)) hp (same_back k.gh hp) upd_same
theorem w_asgD {i : Nat} {k : Ke κ} {R : Rp β} {mk : List (κ × β) → Res ρ} (he : EvD K fm te σ G O) (hs : Hs fm G O H) (hm : Wp ((Res.ok []).bind mk) Q fm.xw)
    (kk : ∀ xs p vs G' H', Same G G' → Hs fm G' ((p, .dK vs) :: O) H' → RKs k R K G' vs xs → Wp (mk xs) Q fm.xw → tr D (σ.set i (some (.ref p))) H') : tSeq (tAsg te (gName i)) tr D σ H :=
  he G H (Same.refl _) hs.kn _ fun p G2 H2 s hp gp hl => kk [] p [] G2 H2 s.gg (hs.new s hp gp hl) .nil hm
def dputM {κ β ρ : Type} [DecidableEq κ] (xs : List (κ × β)) (n : Res κ) (m : Res β) (mk : List (κ × β) → Res ρ) : Res ρ := m.bind fun y => n.bind fun z => if xs.length < lim then mk (dput xs z y) else .stuck
theorem w_dput {i : Nat} (j : Nat) {l : Addr} {k : Ke κ} {R : Rp β} {vs : List (Key × V)} {xs : List (κ × β)} {m : Res β} {n : Res κ} {mk : List (κ × β) → Res ρ} (hx : σ[i]? = some (some (.ref l))) (hj : O[j]? = some (l, .dK vs)) (hr : RKs k R K G vs xs)
    (he : EvE K fm te σ G O R m) (hi : EvE K fm ta σ G O k.rp n) (hs : Hs fm G O H) (hm : Wp (dputM xs n m mk) Q fm.xw)
    (kk : ∀ ys ws G' H', Same G G' → Hs fm G' (O.set j (l, .dK ws)) H' → RKs k R K G' ws ys → Wp (mk ys) Q fm.xw → tr D σ H') : tSeq (sDPut (tVar i) ta te) tr D σ H :=
  he G H (Same.refl _) hs.kn _ (Res.wp_mono (Res.wp_bind hm.out) (fun y q v G2 H2 s r => ⟨_, hx, hi G2 H2 s.gg (hs.stp s).kn _ (Res.wp_mono (Res.wp_bind q) (fun z q v' G3 H3 s' r' => by
    have ss := s.trans s'
    rw [k.is.mp r']
    by_cases hl : xs.length < lim
    · rw [if_pos hl] at q
      exact ⟨l, _, rfl, DPut.k (ss.hh _ _ (hs.at j hj).1) (by rw [Paired.length hr, ← lim_eq]; exact hl), kk _ _ G3 _ ss.gg ((hs.stp ss).set j hj) ((hr.mono ss.gg).put z (R.mono s'.gg r)) (.mk q)⟩
    · rw [if_neg hl] at q; exact q.elim) fun _ _ z => z)⟩) fun _ _ z => z)
/-- the cell holds the dict, locked or not -/
def CellD (c : HO) (vs : List (Key × V)) : Prop := c = .dK vs ∨ ∃ od, c = .frz od (.dK vs)
theorem CellD.rd {c : HO} {vs : List (Key × V)} (h : CellD c vs) {l : Addr} (e : H l = some c) : Rd H l (.dK vs) := by
  rcases h with h | ⟨od, h⟩
  · subst h; exact .inl e
  · subst h; exact .inr ⟨od, e⟩
theorem e_lenD {i : Nat} {l : Addr} {k : Ke κ} {R : Rp β} {vs : List (Key × V)} {xs : List (κ × β)} (h : σ[i]? = some (some (.ref l))) (hl : (l, HO.dK vs) ∈ O) (r : RKs k R K G vs xs) :
    EvE K fm (tCB (fun xs H Q => ∃ a kvs, xs = [V.ref a] ∧ H a = some (.dK kvs) ∧ Q (.int kvs.length) H) (tCons (tVar i) tNil)) σ G O zI (.ok (xs.length : Int)) := fun G1 H1 e kn Q q =>
  ⟨_, h, l, vs, rfl, kn.own _ hl, q _ G1 H1 (Stp.refl kn.gh) (by show V.int _ = V.int _; rw [Paired.length r])⟩
def dgetM {κ β : Type} [DecidableEq κ] (xs : List (κ × β)) (n : Res κ) : Res β := n.bind fun k => optM (dget xs k)
theorem e_dget {i : Nat} {l : Addr} {c : HO} {k : Ke κ} {R : Rp β} {vs : List (Key × V)} {xs : List (κ × β)} {n : Res κ} (h : σ[i]? = some (some (.ref l))) (hl : (l, c) ∈ O) (hc : CellD c vs) (r : RKs k R K G vs xs) (hi : EvE K fm ta σ G O k.rp n) :
    EvE K fm (tDGet (tVar i) ta) σ G O R (dgetM xs n) := fun G1 H1 e kn Q q =>
  ⟨_, h, hi G1 H1 e kn _ (Res.wp_mono (Res.wp_bind q) (fun y q v G2 H2 s rv => by
    rw [k.is.mp rv]
    have g := r.get y
    cases eg : dget xs y with
    | none => rw [eg] at q; exact q.elim
    | some b =>
      rw [eg] at q g
      obtain ⟨w, hw, rw'⟩ := g
      exact ⟨l, w, rfl, .inl ⟨vs, k.enc y, hc.rd ((kn.stp s).own _ hl), rfl, hw.symm⟩, q w G2 H2 s (R.mono (e.trans s.gg) rw')⟩) fun _ _ z => z)⟩
def dinM {κ β : Type} [DecidableEq κ] (xs : List (κ × β)) (n : Res κ) : Res Bool := n.bind fun k => .ok (dget xs k).isSome
theorem e_din {i : Nat} {l : Addr} {c : HO} {k : Ke κ} {R : Rp β} {vs : List (Key × V)} {xs : List (κ × β)} {n : Res κ} (h : σ[i]? = some (some (.ref l))) (hl : (l, c) ∈ O) (hc : CellD c vs) (r : RKs k R K G vs xs) (hi : EvE K fm ta σ G O k.rp n) :
    EvE K fm (tDIn ta (tVar i)) σ G O rB (dinM xs n) := fun G1 H1 e kn Q q =>
  hi G1 H1 e kn _ (Res.wp_mono (Res.wp_bind q) (fun y q v G2 H2 s rv => ⟨_, h, l, valV vs (k.enc y), rfl, .inl ⟨vs, k.enc y, hc.rd ((kn.stp s).own _ hl), k.is.mp rv, rfl⟩, q _ G2 H2 s (by show V.bl _ = V.bl _; rw [r.isSome])⟩) fun _ _ z => z)
theorem e_dnin {i : Nat} {l : Addr} {c : HO} {k : Ke κ} {R : Rp β} {vs : List (Key × V)} {xs : List (κ × β)} {n : Res κ} (h : σ[i]? = some (some (.ref l))) (hl : (l, c) ∈ O) (hc : CellD c vs) (r : RKs k R K G vs xs) (hi : EvE K fm ta σ G O k.rp n) :
    EvE K fm (tDNotIn ta (tVar i)) σ G O rB (notM (dinM xs n)) := fun G1 H1 e kn Q q =>
  hi G1 H1 e kn _ (Res.wp_mono (Res.wp_bind (Res.wp_bind q)) (fun y q v G2 H2 s rv => ⟨_, h, l, valV vs (k.enc y), rfl, .inl ⟨vs, k.enc y, hc.rd ((kn.stp s).own _ hl), k.is.mp rv, rfl⟩, q _ G2 H2 s (by show V.bl _ = V.bl _; rw [r.isSome])⟩) fun _ _ z => z)
/-! for k in d -/
theorem itk_ok {l : Addr} {od : Obj} {k : Ke κ} {R : Rp β} {vs : List (Key × V)} {xs : List (κ × β)} (r : RKs k R K G vs xs) : ItOk K G [(l, .frz od (.dK vs))] k.rp (Itk l od vs) (xs.map (·.1)) where
  go := fun i G1 H a b ho hi => ⟨ho _ List.mem_cons_self, by rw [Paired.length r]; simpa using hi⟩
  stop := fun G1 H a b ho => ⟨ho _ List.mem_cons_self, by rw [Paired.length r]; simp⟩
  yld := fun i G1 H v H' a b ho hi y => by
    obtain ⟨e, kk, w, hk, ev⟩ := y
    subst e ev
    obtain ⟨x, hx, q, _⟩ := paired_get r hk
    exact ⟨x.1, G1, by rw [List.getElem?_map, hx]; rfl, Stp.refl b, k.is.mpr (by rw [← q])⟩
theorem w_lockM {S : Type} {i : Nat} (j : Nat) {d : Addr} {k : Ke κ} {R : Rp β} {vs : List (Key × V)} {xs : List (κ × β)} {g : TG} {Ss : Rps κ} {is : List Nat} {f : κ → S → Res S} {mk : S → Res ρ} {s0 : S} (W : Obj → S → L2.St → Hp → Own → Prop)
    (hx : σ[i]? = some (some (.ref d))) (hj : O[j]? = some (d, .dK vs)) (hr : RKs k R K G vs xs) (tg : Tgt K g k.rp Ss is) (hs : Hs fm G O H) (hm : Wp (((Res.ok (xs.map (·.1))).bind fun ks => forM f ks s0).bind mk) Q fm.xw)
    (hW : ∀ od s σ G O, W od s σ G O → O[j]? = some (d, .frz od (.dK vs))) (h0 : ∀ od, W od s0 σ G (O.set j (d, .frz od (.dK vs))))
    (hb : ∀ od x s σ' G1 G' O' H' vs (D' : Ends) (Qb : S → Prop), Same G G' → W od s σ' G1 O' → Same G1 G' → Hs fm G' O' H' → Ss.r K G' vs x → MEnds fm G' (W od) Qb D' → Wp (f x s) Qb fm.xw → tw D' (setL σ' is vs) H')
    (hn : ∀ od s σ' G1 G' O' H', Same G G' → W od s σ' G1 O' → Same G1 G' → Hs fm G' (O'.set j (d, .dK vs)) H' → Wp (mk s) Q fm.xw → tr D σ' H') : tSeq (tLock (tFor (iKeys (tVar i)) g tw)) tr D σ H := by
  refine ⟨d, .dK vs, (hs.at j hj).1, trivial, fun od => ?_⟩
  have hs1 := hs.set j (o' := .frz od (.dK vs)) hj
  have hj1 : (O.set j (d, HO.frz od (.dK vs)))[j]? = some (d, .frz od (.dK vs)) := List.getElem?_set_self (List.getElem?_eq_some_iff.mp hj).1
  have hi : EvI K fm (iKeys (tVar i)) σ G (O.set j (d, .frz od (.dK vs))) [(d, .frz od (.dK vs))] k.rp (Res.ok (xs.map (·.1))) := fun G1 H1 e kn Q q =>
    ⟨_, hx, d, od, rfl, .inl ⟨vs, kn.own _ (List.mem_of_getElem? hj1), q _ G1 H1 (Stp.refl kn.gh) (itk_ok (hr.mono e))⟩⟩
  have key := w_forM (K := K) (D := { nx := fun σ' H' => H' d = some (.frz od (.dK vs)) ∧ tr D σ' (upd H' d (.dK vs)), rt := fun v H' => H' d = some (.frz od (.dK vs)) ∧ D.rt v (upd H' d (.dK vs)), bk := fun σ' H' => H' d = some (.frz od (.dK vs)) ∧ D.bk σ' (upd H' d (.dK vs)), ct := fun σ' H' => H' d = some (.frz od (.dK vs)) ∧ D.ct σ' (upd H' d (.dK vs)) })
    (tr := tNext) (tw := tw) (W od) hi (fun s σ G O w p hp => by
      rw [List.mem_singleton.mp hp]
      exact List.mem_of_getElem? (hW od s σ G O w)) tg hs1 hm (h0 od) (hb od) fun s σ' G1 G' O' H' a w c hs' q => by
      have hj' := hW od s σ' G1 O' w
      exact ⟨(hs'.at j hj').1, hn od s σ' G1 G' O' _ a w c (hs'.set j hj') q⟩
  exact key
end
end Mw

namespace Mw
open PySem PySem.Spec PyProof.Rows L2
/-! ### a list that the callee has made -/
def rF {α : Type} (F : Hp) (R : Rp α) : Rp (List α) := ⟨fun K G v xs => ∃ p vs, v = .ref p ∧ F p = none ∧ G p = some (.lst vs) ∧ RLs R K G vs xs, fun e ⟨p, vs, a, b, c, d⟩ => ⟨p, vs, a, b, e _ _ c, d.mono e⟩⟩
/-- a result that may tell what is new since the entry -/
def Anti {β : Type} (Rf : Hp → Rp β) : Prop := ∀ F F' K G v y, Same F F' → (Rf F').r K G v y → (Rf F).r K G v y
def spPF {α β : Type} (K : PySem.W.Frag) (cl : Nat → Addr) (S : Rps α) (Rf : Hp → Rp β) (f : α → Res β) : Sp := fun vs H Q E => ∃ G a, Same G H ∧ S.r K G vs a ∧
  Wp (f a) (fun y => ∀ v G' H', Stp G H G' H' → (Rf H).r K G' v y → Q v H') (fun c fs => ∀ H' d, Same H H' → XdOk fs d H' → E (.ref (cl c)) d H')
theorem an_F {α : Type} {R : Rp α} : Anti fun F => rF F R := fun F F' K G v y e ⟨p, vs, a, b, c, d⟩ => ⟨p, vs, a, same_back e b, c, d⟩
theorem an_R {α : Type} {R : Rp α} : Anti fun _ => R := fun F F' K G v y e h => h
theorem an_P2 {α β : Type} {R : Hp → Rp α} {S : Hp → Rp β} (h1 : Anti R) (h2 : Anti S) : Anti fun F => rP2 (R F) (S F) := fun F F' K G v y e ⟨p, vs, a, b, v1, r, c, d, v2, f, g⟩ => ⟨p, vs, a, b, v1, r, c, h1 F F' K G _ _ e d, v2, f, h2 F F' K G _ _ e g⟩
section
variable {α β γ δ ρ : Type} {K : PySem.W.Frag} {fm : Fm} {σ : L2.St} {G G' H H' : Hp} {O : Own}
variable {te ta tb tc : TE} {R : Rp α} {S : Rp β} {T : Rp γ} {m : Res α} {n : Res β}
variable {D : Ends} {tr tt tu tw : TS} {Q : ρ → Prop}
theorem e_callF {S : Rps α} {f : α → Res β} {Rf : Hp → Rp β} {t : TA} (an : Anti Rf) (h : EvA K fm t σ G O S m) : EvE K fm (tCall (spPF K fm.cl S Rf f) [] fm.E t) σ G O (Rf fm.F) (m.bind f) := fun G1 H1 e k Q q =>
  h G1 H1 e k _ (Res.wp_mono (Res.wp_bind q) (fun x q vs G2 H2 s r => ⟨G2, x, s.gh, by rw [List.append_nil]; exact r,
    .mk (Res.wp_mono q (fun y q v G3 H3 s' rv => q v G3 H3 (s.trans s') (an _ _ _ _ _ _ (k.stp s).fr rv)) fun c fs z H' d a b => z H' d ((k.stp s).fr.trans a) b)⟩) fun _ _ z => z)
theorem rF_rK {F : Hp} {v : V} {xs : List α} (h : (rF F R).r K G v xs) : (rK R).r K G v xs := by
  obtain ⟨p, vs, a, b, c, d⟩ := h
  exact ⟨p, vs, a, c, d⟩
theorem e_FK {F : Hp} {m : Res (List α)} (h : EvE K fm te σ G O (rF F R) m) : EvE K fm te σ G O (rK R) m := fun G1 H1 e k Q q =>
  h G1 H1 e k Q (Res.wp_mono q (fun xs q v G2 H2 s r => q v G2 H2 s (rF_rK r)) fun _ _ z => z)
/-- from the promise that tells more -/
theorem spPF_imp {cl : Nat → Addr} {S : Rps α} {f : α → Res β} {Rf : Hp → Rp β} {R' : Rp β} (h : ∀ F K G v y, (Rf F).r K G v y → R'.r K G v y) (vs : List V) (H : Hp) (Q : VK) (E : XK) (q : spP K cl S R' f vs H Q E) : spPF K cl S Rf f vs H Q E := by
  obtain ⟨G, a, g, s, w⟩ := q
  exact ⟨G, a, g, s, .mk (Res.wp_mono w.out (fun y q v G' H' st r => q v G' H' st (h _ _ _ _ _ r)) fun _ _ z => z)⟩
/-! ### a pair of a word and a list that is one's own from then on -/
theorem w_told {i : Nat} {S : Rps α} {f : α → Res (γ × List β)} {Rl : Rp β} {Rw : Rp γ} {t : TA} {mk : γ × List β → Res ρ} (sw : Sc Rw) (sl : Sc Rl) (h : EvA K fm t σ G O S m) (hs : Hs fm G O H) (hm : Wp ((m.bind f).bind mk) Q fm.xw)
    (k : ∀ y v1 l vs p G' H', Same G G' → Hs fm G' ((l, .lst vs) :: O) H' → SqT K G' p [v1, .ref l] → Rw.r K G' v1 y.1 → RLs Rl K G' vs y.2 → Wp (mk y) Q fm.xw → tr D (σ.set i (some (.ref p))) H') :
    tSeq (tAsg (tCall (spPF K fm.cl S (fun F => rP2 Rw (rF F Rl)) f) [] fm.E t) (gName i)) tr D σ H :=
  h G H (Same.refl _) hs.kn _ (Res.wp_mono (Res.wp_bind (Res.wp_bind hm.out)) (fun x q vs G2 H2 s r => ⟨G2, x, s.gh, by rw [List.append_nil]; exact r,
    Wp.mk (Res.wp_mono q (fun y q v G3 H3 s' rv => by
      obtain ⟨p, ws, rfl, hT, v1, r1, e1, hw, v2, e2, l, us, rfl, hl, hG, rl⟩ := rv
      subst e1 e2
      have ss := s.trans s'
      have g2l : G2 l = none := same_back s.gh hl
      have hne : ∀ b o, G2 b = some o → b ≠ l := fun b o z => ne_of_none z g2l
      have hT' : SqT K (fun b => if b = l then none else G3 b) p [v1, .ref l] := by
        rcases hT with hT | hT
        · refine .inl ?_
          have np : p ≠ l := by
            rintro rfl
            rcases hT with hT | ⟨o, hT⟩ <;> rw [hG] at hT <;> cases hT
          rcases hT with hT | ⟨o, hT⟩
          · exact .inl (by show (if p = l then none else G3 p) = _; rw [if_neg np]; exact hT)
          · exact .inr ⟨o, by show (if p = l then none else G3 p) = _; rw [if_neg np]; exact hT⟩
        · exact .inr hT
      have st : Stp G H (fun b => if b = l then none else G3 b) H3 := ⟨ss.hh, fun b o z => by
          show (if b = l then none else G3 b) = _
          rw [if_neg (hne b o (s.gg b o z))]; exact ss.gg b o z, fun b o z => by
          by_cases e : b = l
          · subst e; rw [if_pos rfl] at z; cases z
          · rw [if_neg e] at z; exact ss.gh b o z, fun b o z => by
          show (if b = l then none else G3 b) = _
          have : b ≠ l := by rintro rfl; have := s.hh _ _ z; rw [hl] at this; cases this
          rw [if_neg this]; exact ss.old b o z⟩
      exact k y v1 l us p _ H3 st.gg (hs.new st (same_back s.hh hl) (if_pos rfl) (s'.gh _ _ hG)) hT' (sw _ _ _ _ _ hw) (Paired.mapP rl fun _ _ q => sl _ _ _ _ _ q) (.mk q)) fun c fs z H' d a b => z H' d ((hs.kn.stp s).fr.trans a) b)⟩) fun _ _ z => z)
theorem told_rep {Rl : Rp β} {Rw : Rp γ} {y : γ × List β} {v1 : V} {l p : Addr} {vs : List V} (hT : SqT K G p [v1, .ref l]) (hw : Rw.r K G v1 y.1) (hG : G l = some (.lst vs)) (r : RLs Rl K G vs y.2) : (rP2 Rw (rK Rl)).r K G (.ref p) y :=
  ⟨p, _, rfl, hT, v1, _, rfl, hw, _, rfl, l, vs, rfl, hG, r⟩
/-- told[1].append(e) -/
theorem w_appAt {i : Nat} (j : Nat) {l p : Addr} {v1 : V} {vs : List V} {xs : List α} {m : Res α} {mk : List α → Res ρ} (hx : σ[i]? = some (some (.ref p))) (hT : SqT K G p [v1, .ref l]) (hj : O[j]? = some (l, .lst vs)) (hr : RLs R K G vs xs) (he : EvE K fm te σ G O R m) (hs : Hs fm G O H)
    (hm : Wp (appM xs m mk) Q fm.xw)
    (k : ∀ y v G' H', Same G G' → Hs fm G' (O.set j (l, .lst (vs ++ [v]))) H' → RLs R K G' (vs ++ [v]) (xs ++ [y]) → Wp (mk (xs ++ [y])) Q fm.xw → tr D σ H') :
    tSeq (tDrop (tBM K "list" rAppend (tOp (rIxT K) (tVar i) (tC (.int 1))) (tCons te tNil))) tr D σ H :=
  ⟨_, hx, p, _, 1, .ref l, rfl, rfl, same_t hs.gh hT, rfl, .inl ⟨rfl, vs, SqL.of (hs.at j hj).1⟩, he G H (Same.refl _) hs.kn _ (Res.wp_mono (Res.wp_bind (f := fun y => if xs.length < lim then mk (xs ++ [y]) else .stuck) hm.out) (fun y q v G2 H2 s r => by
    by_cases hl : xs.length < lim
    · rw [if_pos hl] at q
      exact ⟨l, vs, v, rfl, rfl, s.hh _ _ (hs.at j hj).1, by rw [Paired.length hr, ← lim_eq]; exact hl, k y v G2 _ s.gg ((hs.stp s).set j hj) (paired_app (hr.mono s.gg) (.cons r .nil)) (.mk q)⟩
    · rw [if_neg hl] at q; exact q.elim) fun _ _ z => z)⟩

/-! ### try: .. except GatesError as e: return [isinstance(e, A), .., True].index(True) -/
def tryM {α ρ : Type} (m : Res α) (h : Nat → List (Str × V) → Res ρ) (k : α → Res ρ) : Res ρ :=
  match m with
  | .ok a => k a
  | .exc c fs => h c fs
  | .stuck => .stuck
@[simp] theorem tryM_ok {α ρ : Type} (a : α) (h : Nat → List (Str × V) → Res ρ) (k : α → Res ρ) : tryM (.ok a) h k = k a := rfl
@[simp] theorem tryM_exc {α ρ : Type} (c fs) (h : Nat → List (Str × V) → Res ρ) (k : α → Res ρ) : tryM (.exc c fs) h k = h c fs := rfl
/-- the items isinstance(e, C), .. and True -/
def tIs (K : PySem.W.Frag) (i : Nat) (a C : Addr) : List Addr → TA
  | [] => tCons (tC (.bl true)) tNil
  | c :: cs => tCons (tCB (rIsE K C a) (tCons (tVar i) (tCons (tC (.ref c)) tNil))) (tIs K i a C cs)
def firstT : List Bool → Nat
  | [] => 0
  | b :: bs => if b = true then 0 else firstT bs + 1
theorem tIs_run {i : Nat} {a C : Addr} : ∀ {cs : List Addr} {bs : List Bool} {σ : L2.St} {H : Hp} {Q : List V → Hp → Prop}, σ[i]? = some (some (.ref a)) → Paired (fun c b => PySem.W.kitOne K (.ref C) (.ref c) = some b) cs bs → Q ((bs.map V.bl) ++ [.bl true]) H → tIs K i a C cs σ H Q
  | _, _, σ, H, Q, hx, .nil, q => q
  | _, _, σ, H, Q, hx, .cons (b := b) h t, q => ⟨_, hx, .ref _, .ref _, b, rfl, fun u e => e, h, tIs_run (Q := fun xs H2 => Q (.bl b :: xs) H2) hx t q⟩
def tIdx (K : PySem.W.Frag) (i : Nat) (a C : Addr) (cs : List Addr) : TS := tSeq (tRet (tBM K "list" (rIndex K) (tLst (tIs K i a C cs)) (tCons (tC (.bl true)) tNil))) tNext
theorem firstT_at : ∀ bs : List Bool, (bs.map V.bl ++ [V.bl true])[firstT bs]? = some (.bl true)
  | [] => rfl
  | b :: bs => by
    unfold firstT
    split
    · rename_i h; subst h; rfl
    · simpa using firstT_at bs
theorem firstT_lt : ∀ (bs : List Bool) (m : Nat) (z : V), m < firstT bs → (bs.map V.bl ++ [V.bl true])[m]? = some z → eqV z (.bl true) = false
  | [], m, z, h, e => absurd h (by simp [firstT])
  | b :: bs, m, z, h, e => by
    unfold firstT at h
    split at h
    · exact absurd h (Nat.not_lt_zero _)
    · rename_i hb
      cases m with
      | zero =>
        have : z = .bl b := by simpa using e.symm
        subst this
        cases b
        · rfl
        · exact absurd rfl hb
      | succ m => exact firstT_lt bs m z (by omega) (by simpa using e)
theorem firstT_len : ∀ bs : List Bool, firstT bs ≤ bs.length
  | [] => Nat.le_refl _
  | b :: bs => by
    unfold firstT
    split
    · exact Nat.zero_le _
    · exact Nat.succ_le_succ (firstT_len bs)
theorem tIdx_run {i : Nat} {a C : Addr} {cs : List Addr} {bs : List Bool} {σ : L2.St} {H : Hp} (hx : σ[i]? = some (some (.ref a))) (h : Paired (fun c b => PySem.W.kitOne K (.ref C) (.ref c) = some b) cs bs) (hn : bs.length < 1000)
    (q : ∀ H', Same H H' → D.rt (.int (firstT bs : Nat)) H') : tIdx K i a C cs D σ H := by
  refine tIs_run (K := K) hx h ⟨?_, fun p hp => ⟨.inl ⟨rfl, _, SqL.of upd_same⟩, p, _, .bl true, firstT bs, .bl true, rfl, rfl, SqL.of upd_same, rfl, ?_, firstT_at bs, rfl, firstT_lt bs, q _ (same_new hp)⟩⟩
  · rw [sizeLine_eq]; simp; omega
  · rw [List.all_eq_true]
    intro x hx
    rcases List.mem_append.mp hx with hx | hx
    · obtain ⟨b, _, e⟩ := List.mem_map.mp hx
      rw [← e]; rfl
    · rw [List.mem_singleton.mp hx]; rfl
/-- the suite's reading, by the class of what is caught -/
noncomputable def tSui (K : PySem.W.Frag) (i : Nat) (cl : Nat → Addr) (n : Nat) (cs : List Addr) (a : Addr) (cls : Value) (d : Option Addr) : TS := by
  classical exact if h : d = none ∧ ∃ k, k < n ∧ cls = .ref (cl k) then tIdx K i a (cl h.2.choose) cs else tNever
theorem tSui_eq {i : Nat} {cl : Nat → Addr} {n : Nat} {cs : List Addr} {a : Addr} {k : Nat} (hk : k < n) : tSui K i cl n cs a (.ref (cl k)) none = tIdx K i a (cl k) cs := by
  unfold tSui
  have h : (none : Option Addr) = none ∧ ∃ j, j < n ∧ Value.ref (cl k) = .ref (cl j) := ⟨rfl, k, hk, rfl⟩
  rw [dif_pos h]
  have e := h.2.choose_spec.2
  injection e with e
  rw [← e]
theorem tSui_ok {X : Cx} {i : Nat} {cl : Nat → Addr} {n : Nat} {cs : List Addr} {sts : List Stmt} (hd : ∀ (a : Addr) (oe : Obj) (k : Nat) (pn : List (Addr × Obj)), k < n → Zc (.ref (cl k)) none oe → (∃ vs, oe.data = .fields vs) → PSs (X.suite a ((a, oe) :: pn)) sts (tIdx X.K i a (cl k) cs))
    (a : Addr) (oe : Obj) (cls : Value) (d : Option Addr) (pn : List (Addr × Obj)) (hz : Zc cls d oe) (hf : ∃ vs, oe.data = .fields vs) : PSs (X.suite a ((a, oe) :: pn)) sts (tSui X.K i cl n cs a cls d) := by
  classical
  unfold tSui
  split
  · rename_i h
    obtain ⟨hk, e⟩ := h.2.choose_spec
    obtain ⟨rfl, _⟩ := h
    exact hd a oe _ pn hk (by rw [← e]; exact hz) hf
  · exact pss_never
theorem Hs.withE {E' : XK} (h : Hs fm G O H) : Hs { fm with E := E' } G O H := ⟨h.fr, h.g0, h.gh, h.old, h.own, h.nd⟩
theorem e_callS {S : Rps α} {f : α → Res β} {R : Rp β} {t : TA} {Ew : L2.St → XK} (hE : Ew σ = fm.E) (h : EvA K fm t σ G O S m) : EvE K fm (tCallS (spP K fm.cl S R f) Ew t) σ G O R (m.bind f) := fun G1 H1 e k Q q =>
  h G1 H1 e k _ (Res.wp_mono (Res.wp_bind q) (fun x q vs G2 H2 s r => ⟨G2, x, s.gh, r,
    .mk (Res.wp_mono q (fun y q v G3 H3 s' rv => q v G3 H3 (s.trans s') rv) fun c fs z H' d a b => by
      rw [hE]
      exact z H' d ((k.stp s).fr.trans a) b)⟩) fun _ _ z => z)
theorem e_callSF {S : Rps α} {f : α → Res β} {Rf : Hp → Rp β} {t : TA} {Ew : L2.St → XK} (an : Anti Rf) (hE : Ew σ = fm.E) (h : EvA K fm t σ G O S m) : EvE K fm (tCallS (spPF K fm.cl S Rf f) Ew t) σ G O (Rf fm.F) (m.bind f) := fun G1 H1 e k Q q =>
  h G1 H1 e k _ (Res.wp_mono (Res.wp_bind q) (fun x q vs G2 H2 s r => ⟨G2, x, s.gh, r,
    .mk (Res.wp_mono q (fun y q v G3 H3 s' rv => q v G3 H3 (s.trans s') (an _ _ _ _ _ _ (k.stp s).fr rv)) fun c fs z H' d a b => by
      rw [hE]
      exact z H' d ((k.stp s).fr.trans a) b)⟩) fun _ _ z => z)
theorem Hs.sr (h : Hs fm G O H) : Same G G := Same.refl G
/-- by the class: the place in the handler's list -/
def errM {ρ : Type} (n : Nat) (f : Nat → Res ρ) (c : Nat) (fs : List (Str × V)) : Res ρ := if c < n ∧ fs = [] then f c else .stuck
def tTry (tb : WX → TS) (K : PySem.W.Frag) (c : Value) (i : Nat) (ts : Addr → Value → Option Addr → TS) (Wout : WX) : TS := fun D σ H => tb (wAs K c i ts Wout D) D σ H
theorem w_try {tb : WX → TS} {Wout : WX} {c : Value} {i nn : Nat} {cs : List Addr} {bs : Nat → List Bool} {mb : Res Unit} {hd : Nat → Res ρ} {rest : Res ρ}
    (hs : Hs fm G O H) (hm : Wp (tryM mb (errM nn hd) (fun _ => rest)) Q fm.xw) (hi : i < σ.length)
    (hex : ∀ k, k < nn → PySem.W.exmOne K (.ref (fm.cl k)) c = some true)
    (hkit : ∀ k, k < nn → Paired (fun c b => PySem.W.kitOne K (.ref (fm.cl k)) (.ref c) = some b) cs (bs k)) (hlen : ∀ k, k < nn → (bs k).length < 1000)
    (hret : ∀ k H', k < nn → Same fm.F H' → Wp (hd k) Q fm.xw → D.rt (.int (firstT (bs k) : Nat)) H')
    (hb : ∀ (D' : Ends) (Qb : Unit → Prop) (W : WX), (∀ G' H', Same G G' → Hs fm G' O H' → Qb () → D'.nx σ H') → Hs { fm with E := WE W σ } G O H → Wp mb Qb ({ fm with E := WE W σ } : Fm).xw → tb W D' σ H)
    (hn : ∀ G' H', Same G G' → Hs fm G' O H' → Wp rest Q fm.xw → tr D σ H') : tSeq (tTry tb K c i (tSui K i fm.cl nn cs) Wout) tr D σ H := by
  refine hb _ (fun _ => Wp rest Q fm.xw) _ (fun G' H' a b q => hn G' H' a b q) hs.withE (.mk ?_)
  have q := hm.out
  cases mb with
  | ok u => exact .mk q
  | stuck => exact q
  | exc k fs =>
    have q' : (errM nn hd k fs).wp Q fm.xw := q
    unfold errM at q'
    split at q'
    · rename_i hk
      obtain ⟨hk, rfl⟩ := hk
      intro H' d e hd'
      cases (show d = none from hd')
      refine ⟨true, hex k hk, fun _ a ha => ?_, fun z => nomatch z⟩
      rw [tSui_eq hk]
      exact tIdx_run (List.getElem?_set_self hi) (hkit k hk) (hlen k hk) fun H2 e2 => hret k H2 hk (e.trans e2) (.mk q')
    · exact q'.elim
theorem e_FP2 {F : Hp} {m : Res (β × List α)} (h : EvE K fm te σ G O (rP2 S (rF F R)) m) : EvE K fm te σ G O (rP2 S (rK R)) m := fun G1 H1 e k Q q =>
  h G1 H1 e k Q (Res.wp_mono q (fun xs q v G2 H2 s r => q v G2 H2 s (by
    obtain ⟨p, vs, a, b, v1, r1, c, d, v2, f, g⟩ := r
    exact ⟨p, vs, a, b, v1, r1, c, d, v2, f, rF_rK g⟩)) fun _ _ z => z)
theorem nn_F {F : Hp} : Nn (rF F R) := fun _ _ v x ⟨p, vs, h, _⟩ => by cases h; simp
end
end Mw

namespace Mw
open PySem PySem.Spec PyProof.Rows L2
/-! ### what evaluates to one value and leaves all as it is: names, fields -/
def EvV (fm : Fm) (te : TE) (σ : L2.St) (G : Hp) (O : Own) (v : V) : Prop := ∀ G1 H1, Same G G1 → Kn fm G1 O H1 → ∀ Q : VK, Q v H1 → te σ H1 Q
/-- a tuple made here, of keys: what the layer takes as a key -/
structure Kt (κ : Type) [DecidableEq κ] where
  enc : κ → List Key
  inj : ∀ {a b}, enc a = enc b → a = b
def rX {κ : Type} [DecidableEq κ] (k : Kt κ) : Rp κ := ⟨fun _ G v x => ∃ p, v = .ref p ∧ G p = some (.tup ((k.enc x).map kV)), fun e ⟨p, h, g⟩ => ⟨p, h, e _ _ g⟩⟩
def kt3 : Kt (Int × Int × Int) := ⟨fun x => [.inl x.1, .inl x.2.1, .inl x.2.2], fun {a b} h => by
  injection h with h1 h
  injection h with h2 h
  injection h with h3 h
  cases a; cases b
  simp only [Prod.mk.injEq]
  rename_i x y u v
  obtain ⟨y1, y2⟩ := y
  obtain ⟨v1, v2⟩ := v
  exact ⟨Sum.inl.inj h1, by simpa using ⟨Sum.inl.inj h2, Sum.inl.inj h3⟩⟩⟩
section
variable {α β γ δ ρ κ : Type} [DecidableEq κ] {K : PySem.W.Frag} {fm : Fm} {σ : L2.St} {G G' H H' : Hp} {O : Own}
variable {te ta tb tc : TE} {R : Rp α} {S : Rp β} {T : Rp γ} {m : Res α} {n : Res β}
variable {D : Ends} {tr tt tu tw : TS} {Q : ρ → Prop}
theorem EvV.mono {v : V} (e : Same G G') (h : EvV fm te σ G O v) : EvV fm te σ G' O v := fun G1 H1 a k Q q => h G1 H1 (e.trans a) k Q q
theorem v_var {i : Nat} {v : V} (h : σ[i]? = some (some v)) : EvV fm (tVar i) σ G O v := fun G1 H1 e k Q q => ⟨v, h, q⟩
theorem v_fld {p C dx : Addr} {fs : List (Str × V)} {f : Str} {v : V} (h : EvV fm te σ G O (.ref p)) (ho : (p, .ins C dx fs) ∈ O) (c : Cls K C) (na : NoAttr K C f) (l : fs.lookup f = some v) : EvV fm (tFld K te f) σ G O v :=
  fun G1 H1 e k Q q => h G1 H1 e k _ ⟨p, C, dx, fs, v, rfl, k.own _ ho, c, na, l, q⟩
theorem e_val {v : V} {x : α} (h : EvV fm te σ G O v) (r : R.r K G v x) : EvE K fm te σ G O R (.ok x) := fun G1 H1 e k Q q =>
  h G1 H1 e k _ (q v G1 H1 (Stp.refl k.gh) (R.mono e r))
theorem e_lenV {l : Addr} {vs : List V} {xs : List α} (h : EvV fm te σ G O (.ref l)) (hl : (l, HO.lst vs) ∈ O) (r : RLs R K G vs xs) : EvE K fm (tCB (rLen K) (tCons te tNil)) σ G O zI (lenM (.ok xs)) := fun G1 H1 e k Q q =>
  h G1 H1 e k _ ⟨_, xs.length, rfl, .inl ⟨vs, SqL.of (k.own _ hl), (Paired.length r).symm⟩, q _ G1 H1 (Stp.refl k.gh) rfl⟩
theorem e_ixV {l : Addr} {vs : List V} {xs : List α} {n : Res Int} (h : EvV fm te σ G O (.ref l)) (hl : (l, HO.lst vs) ∈ O) (r : RLs R K G vs xs) (hb : EvE K fm tb σ G O zI n) : EvE K fm (tOp (rIxL K) te tb) σ G O R (idxM (.ok xs) n) := fun G1 H1 e k Q q =>
  h G1 H1 e k _ (hb G1 H1 e k _ (Res.wp_mono (Res.wp_bind (m := n) (f := fun j => optM (atI xs j)) q) (fun j q v G2 H2 s rv => by
    cases (show v = .int j from rv)
    cases ea : atI xs j with
    | none => rw [ea] at q; exact q.elim
    | some y =>
      rw [ea] at q
      obtain ⟨w, ew, rw'⟩ := paired_at r ea
      exact ⟨l, vs, j, w, rfl, rfl, SqL.of ((k.stp s).own _ hl), ew, q w G2 H2 s (R.mono (e.trans s.gg) rw')⟩) fun _ _ z => z))
theorem w_appV (j : Nat) {l : Addr} {vs : List V} {xs : List α} {m : Res α} {mk : List α → Res ρ} (hx : EvV fm tb σ G O (.ref l)) (hj : O[j]? = some (l, .lst vs)) (hr : RLs R K G vs xs) (he : EvE K fm te σ G O R m) (hs : Hs fm G O H)
    (hm : Wp (appM xs m mk) Q fm.xw)
    (k : ∀ y v G' H', Same G G' → Hs fm G' (O.set j (l, .lst (vs ++ [v]))) H' → R.r K G' v y → RLs R K G' (vs ++ [v]) (xs ++ [y]) → Wp (mk (xs ++ [y])) Q fm.xw → tr D σ H') : tSeq (tDrop (tBM K "list" rAppend tb (tCons te tNil))) tr D σ H :=
  hx G H (Same.refl _) hs.kn _ ⟨.inl ⟨rfl, vs, SqL.of (hs.at j hj).1⟩, he G H (Same.refl _) hs.kn _ (Res.wp_mono (Res.wp_bind (f := fun y => if xs.length < lim then mk (xs ++ [y]) else .stuck) hm.out) (fun y q v G2 H2 s r => by
    by_cases hl : xs.length < lim
    · rw [if_pos hl] at q
      exact ⟨l, vs, v, rfl, rfl, s.hh _ _ (hs.at j hj).1, by rw [Paired.length hr, ← lim_eq]; exact hl, k y v G2 _ s.gg ((hs.stp s).set j hj) r (paired_app (hr.mono s.gg) (.cons r .nil)) (.mk q)⟩
    · rw [if_neg hl] at q; exact q.elim) fun _ _ z => z)⟩
/-! ### dicts whose keys are tuples -/
abbrev RKt (k : Kt κ) (R : Rp β) (K : PySem.W.Frag) (G : Hp) : List (List Key × V) → List (κ × β) → Prop := Paired fun p x => p.1 = k.enc x.1 ∧ R.r K G p.2 x.2
theorem RKt.mono {k : Kt κ} {R : Rp β} {vs : List (List Key × V)} {xs : List (κ × β)} (e : Same G G') (h : RKt k R K G vs xs) : RKt k R K G' vs xs := Paired.mapP h fun _ _ q => ⟨q.1, R.mono e q.2⟩
theorem RKt.any {k : Kt κ} {R : Rp β} {vs : List (List Key × V)} {xs : List (κ × β)} (h : RKt k R K G vs xs) (y : κ) : (vs.any fun p => decide (p.1 = k.enc y)) = xs.any fun p => decide (p.1 = y) := by
  induction h with
  | nil => rfl
  | cons r t ih => rw [List.any_cons, List.any_cons, ih, r.1]; congr 1; exact decide_eq_decide.mpr ⟨k.inj, fun e => by rw [e]⟩
theorem RKt.get {k : Kt κ} {R : Rp β} {vs : List (List Key × V)} {xs : List (κ × β)} (h : RKt k R K G vs xs) (y : κ) :
    match dget xs y with | some b => ∃ v, valV vs (k.enc y) = some v ∧ R.r K G v b | none => valV vs (k.enc y) = none := by
  induction h with
  | nil => rfl
  | @cons p x vs xs r t ih =>
    by_cases e : x.1 = y
    · have : dget (x :: xs) y = some x.2 := by simp [dget, List.find?_cons, e]
      rw [this]
      exact ⟨p.2, valV_pos (r.1.trans (by rw [e])), r.2⟩
    · have : dget (x :: xs) y = dget xs y := by simp [dget, List.find?_cons, e]
      rw [this, valV_neg (fun q => e (k.inj (r.1.symm.trans q)))]
      exact ih
theorem RKt.isSome {k : Kt κ} {R : Rp β} {vs : List (List Key × V)} {xs : List (κ × β)} (h : RKt k R K G vs xs) (y : κ) : (valV vs (k.enc y)).isSome = (dget xs y).isSome := by
  have q := h.get y
  cases e : dget xs y with
  | none => rw [e] at q; rw [show valV vs (k.enc y) = none from q]; rfl
  | some b => rw [e] at q; obtain ⟨v, hv, _⟩ := q; rw [hv]; rfl
theorem RKt.rep {k : Kt κ} {R : Rp β} {vs : List (List Key × V)} {xs : List (κ × β)} (h : RKt k R K G vs xs) (y : κ) {v : V} {b : β} (r : R.r K G v b) :
    RKt k R K G (vs.map fun p => if p.1 = k.enc y then (p.1, v) else p) (xs.map fun p => if p.1 = y then (p.1, b) else p) := by
  induction h with
  | nil => exact .nil
  | @cons p x vs xs q t ih =>
    refine .cons ?_ ih
    by_cases e : x.1 = y
    · dsimp only; rw [if_pos e, if_pos (q.1.trans (by rw [e]))]; exact ⟨q.1, r⟩
    · dsimp only; rw [if_neg e, if_neg (fun z => e (k.inj (q.1.symm.trans z)))]; exact q
theorem RKt.put {k : Kt κ} {R : Rp β} {vs : List (List Key × V)} {xs : List (κ × β)} (h : RKt k R K G vs xs) (y : κ) {v : V} {b : β} (r : R.r K G v b) : RKt k R K G (putK vs (k.enc y) v) (dput xs y b) := by
  unfold putK dput
  rw [h.any y]
  split
  · exact RKt.rep h y r
  · exact paired_app h (.cons ⟨rfl, r⟩ .nil)
theorem e_dgetT {l : Addr} {k : Kt κ} {R : Rp β} {vs : List (List Key × V)} {xs : List (κ × β)} {n : Res κ} (h : EvV fm te σ G O (.ref l)) (hl : (l, HO.dT vs) ∈ O) (r : RKt k R K G vs xs) (hi : EvE K fm ta σ G O (rX k) n) :
    EvE K fm (tDGet te ta) σ G O R (dgetM xs n) := fun G1 H1 e kn Q q =>
  h G1 H1 e kn _ (hi G1 H1 e kn _ (Res.wp_mono (Res.wp_bind q) (fun y q v G2 H2 s rv => by
    obtain ⟨b, rfl, hb⟩ := rv
    have g := r.get y
    cases eg : dget xs y with
    | none => rw [eg] at q; exact q.elim
    | some x =>
      rw [eg] at q g
      obtain ⟨w, hw, rw'⟩ := g
      exact ⟨l, w, rfl, by rw [← hw]; exact DGet.t ((kn.stp s).own _ hl) (s.gh _ _ hb), q w G2 H2 s (R.mono (e.trans s.gg) rw')⟩) fun _ _ z => z))
theorem e_dninT {l : Addr} {k : Kt κ} {R : Rp β} {vs : List (List Key × V)} {xs : List (κ × β)} {n : Res κ} (h : EvV fm te σ G O (.ref l)) (hl : (l, HO.dT vs) ∈ O) (r : RKt k R K G vs xs) (hi : EvE K fm ta σ G O (rX k) n) :
    EvE K fm (tDNotIn ta te) σ G O rB (notM (dinM xs n)) := fun G1 H1 e kn Q q =>
  hi G1 H1 e kn _ (Res.wp_mono (Res.wp_bind (Res.wp_bind q)) (fun y q v G2 H2 s rv => by
    obtain ⟨b, rfl, hb⟩ := rv
    exact h G2 H2 (e.trans s.gg) (kn.stp s) _ ⟨l, valV vs (k.enc y), rfl, DGet.t ((kn.stp s).own _ hl) (s.gh _ _ hb), q _ G2 H2 s (by show V.bl _ = V.bl _; rw [r.isSome])⟩) fun _ _ z => z)
theorem w_dputT (j : Nat) {l : Addr} {k : Kt κ} {R : Rp β} {vs : List (List Key × V)} {xs : List (κ × β)} {m : Res β} {n : Res κ} {mk : List (κ × β) → Res ρ} (hx : EvV fm tb σ G O (.ref l)) (hj : O[j]? = some (l, .dT vs)) (hr : RKt k R K G vs xs)
    (he : EvE K fm te σ G O R m) (hi : EvE K fm ta σ G O (rX k) n) (hs : Hs fm G O H) (hm : Wp (dputM xs n m mk) Q fm.xw)
    (kk : ∀ ys ws G' H', Same G G' → Hs fm G' (O.set j (l, .dT ws)) H' → RKt k R K G' ws ys → Wp (mk ys) Q fm.xw → tr D σ H') : tSeq (sDPut tb ta te) tr D σ H :=
  he G H (Same.refl _) hs.kn _ (Res.wp_mono (Res.wp_bind hm.out) (fun y q v G2 H2 s r => hx G2 H2 s.gg (hs.stp s).kn _ (hi G2 H2 s.gg (hs.stp s).kn _ (Res.wp_mono (Res.wp_bind q) (fun z q v' G3 H3 s' r' => by
    have ss := s.trans s'
    obtain ⟨b, rfl, hb⟩ := r'
    by_cases hl : xs.length < lim
    · rw [if_pos hl] at q
      exact ⟨l, _, rfl, DPut.t (ss.hh _ _ (hs.at j hj).1) (s'.gh _ _ hb) (by rw [Paired.length hr, ← lim_eq]; exact hl), kk _ _ G3 _ ss.gg ((hs.stp ss).set j hj) ((hr.mono ss.gg).put z (R.mono s'.gg r)) (.mk q)⟩
    · rw [if_neg hl] at q; exact q.elim) fun _ _ z => z))) fun _ _ z => z)
end
end Mw

namespace Mw
open PySem PySem.Spec PyProof.Rows L2
/-! ### objects: own cells that a callee writes -/
/-- the heap without the cells of O -/
def without (O : Own) (H : Hp) : Hp := fun b => if b ∈ O.map (·.1) then none else H b
theorem without_in {O : Own} {H : Hp} {b : Addr} (h : b ∈ O.map (·.1)) : without O H b = none := if_pos h
theorem without_out {O : Own} {H : Hp} {b : Addr} (h : b ∉ O.map (·.1)) : without O H b = H b := if_neg h
theorem without_some {O : Own} {H : Hp} {b : Addr} {o : HO} (h : without O H b = some o) : H b = some o ∧ b ∉ O.map (·.1) := by
  unfold without at h
  split at h
  · cases h
  · rename_i q; exact ⟨h, q⟩
section
variable {α β γ δ ρ : Type} {K : PySem.W.Frag} {fm : Fm} {σ : L2.St} {G G' H H' : Hp} {O O' La Lb : Own}
variable {te ta tb tc : TE} {R : Rp α} {S : Rp β} {T : Rp γ} {m : Res α} {n : Res β}
variable {D : Ends} {tr tt tu tw : TS} {Q : ρ → Prop}
theorem Hs.sub (hs : Hs fm G (La ++ (O ++ Lb)) H) : Hs ⟨without O H, G, fm.E, fm.cl⟩ G O H :=
  ⟨fun b o h => (without_some h).1, Same.refl _, hs.gh, fun _ _ _ => rfl, fun p hp => by
    have := hs.own p (List.mem_append_right _ (List.mem_append_left _ hp))
    exact ⟨this.1, this.2.1, without_in (List.mem_map.mpr ⟨p, hp, rfl⟩)⟩, by
    have := hs.nd
    rw [List.map_append, List.map_append] at this
    exact (List.nodup_append.mp (List.nodup_append.mp this).2.1).1⟩
theorem Hs.back (hs : Hs fm G (La ++ (O ++ Lb)) H) (h : Hs ⟨without O H, G, fm.E, fm.cl⟩ G' O' H') (e : O'.map (·.1) = O.map (·.1)) : Hs fm G' (La ++ (O' ++ Lb)) H' := by
  have nd := hs.nd
  rw [List.map_append, List.map_append] at nd
  obtain ⟨n1, n2, n3⟩ := List.nodup_append.mp nd
  obtain ⟨n4, n5, n6⟩ := List.nodup_append.mp n2
  have fo : ∀ b o, fm.F b = some o → b ∉ O.map (·.1) := fun b o hb hm => by
    obtain ⟨p, hp, rfl⟩ := List.mem_map.mp hm
    have := (hs.own p (List.mem_append_right _ (List.mem_append_left _ hp))).2.2
    rw [this] at hb
    cases hb
  have oth : ∀ p : Addr × HO, p ∈ La ++ (O ++ Lb) → p.1 ∉ O.map (·.1) → H' p.1 = some p.2 ∧ G' p.1 = none ∧ fm.F p.1 = none := fun p hp ho => by
    obtain ⟨a, b, c⟩ := hs.own p hp
    have w : without O H p.1 = some p.2 := (without_out ho).trans a
    exact ⟨h.fr _ _ w, (h.old _ _ w).trans b, c⟩
  refine ⟨fun b o hb => h.fr b o ((without_out (fo b o hb)).trans (hs.fr b o hb)), hs.g0.trans h.g0, h.gh, fun b o hb => (h.old b o ((without_out (fo b o hb)).trans (hs.fr b o hb))).trans (hs.old b o hb), fun p hp => ?_, ?_⟩
  · rcases List.mem_append.mp hp with hp | hp
    · refine oth p (List.mem_append_left _ hp) fun hm => ?_
      exact n3 p.1 (List.mem_map.mpr ⟨p, hp, rfl⟩) p.1 (List.mem_append_left _ hm) rfl
    · rcases List.mem_append.mp hp with hp | hp
      · obtain ⟨a, b, c⟩ := h.own p hp
        have hm : p.1 ∈ O.map (·.1) := by rw [← e]; exact List.mem_map.mpr ⟨p, hp, rfl⟩
        obtain ⟨q, hq, eq⟩ := List.mem_map.mp hm
        refine ⟨a, b, ?_⟩
        rw [← eq]
        exact (hs.own q (List.mem_append_right _ (List.mem_append_left _ hq))).2.2
      · refine oth p (List.mem_append_right _ (List.mem_append_right _ hp)) fun hm => ?_
        exact n6 p.1 hm p.1 (List.mem_map.mpr ⟨p, hp, rfl⟩) rfl
  · rw [List.map_append, List.map_append, e]
    exact nd
/-- what a def that writes an object promises: the object first -/
def spM {α β δ : Type} (K : PySem.W.Frag) (cl : Nat → Addr) (Ob : δ → V → Hp → Own → Prop) (S : Rps α) (R : Rp β) (f : δ → α → Res (β × δ)) : Sp := fun vs H Q E => ∃ F G O d v0 rest a, vs = v0 :: rest ∧ Hs ⟨F, G, E, cl⟩ G O H ∧ Ob d v0 G O ∧ S.r K G rest a ∧
  Wp (f d a) (fun x => ∀ v G' O' H', Hs ⟨F, G, E, cl⟩ G' O' H' → Ob x.2 v0 G' O' → O'.map (·.1) = O.map (·.1) → R.r K G' v x.1 → Q v H') (Fm.xw ⟨F, G, E, cl⟩)
/-- what evaluates while it writes the object -/
def EvM {α δ : Type} (K : PySem.W.Frag) (fm : Fm) (te : TE) (σ : L2.St) (G : Hp) (La O Lb : Own) (Ob : δ → V → Hp → Own → Prop) (v0 : V) (d : δ) (R : Rp α) (mm : Res (α × δ)) : Prop :=
  ∀ H, Hs fm G (La ++ (O ++ Lb)) H → Ob d v0 G O → ∀ Q : VK, mm.wp (fun x => ∀ v G' O' H', Same G G' → Hs fm G' (La ++ (O' ++ Lb)) H' → Ob x.2 v0 G' O' → O'.map (·.1) = O.map (·.1) → R.r K G' v x.1 → Q v H') fm.xw → te σ H Q
variable {Ob : δ → V → Hp → Own → Prop} {d : δ} {v0 : V}
theorem xw_sub {c : Nat} {fs : List (Str × V)} (hs : Hs fm G (La ++ (O ++ Lb)) H) (h : fm.xw c fs) : Fm.xw ⟨without O H, G, fm.E, fm.cl⟩ c fs := fun H' dd s x => h H' dd (fun b o hb => s b o (by
  show without O H b = some o
  rw [without_out]
  · exact hs.fr b o hb
  · intro hm
    obtain ⟨p, hp, rfl⟩ := List.mem_map.mp hm
    have := (hs.own p (List.mem_append_right _ (List.mem_append_left _ hp))).2.2
    rw [this] at hb
    cases hb)) x
/-- o.m(..), m writes o -/
theorem m_meth {Sα : Rps β} {f : δ → β → Res (α × δ)} {mt : Str} {p C dx : Addr} {fs : List (Str × V)} {t : TA} {a : Res β} (obm : ∀ d v G G' O, Same G G' → Ob d v G O → Ob d v G' O)
    (hx : EvV fm te σ G (La ++ (O ++ Lb)) (.ref p)) (ho : (p, .ins C dx fs) ∈ La ++ (O ++ Lb)) (hl : fs.lookup mt = none) (ha : EvA K fm t σ G (La ++ (O ++ Lb)) Sα a) :
    EvM K fm (tMeth C mt (spM K fm.cl Ob Sα R f) [] fm.E te t) σ G La O Lb Ob (.ref p) d R (a.bind fun x => f d x) := fun H hs ob Q q =>
  hx G H (Same.refl _) hs.kn _ ⟨p, dx, fs, rfl, hs.kn.own _ ho, hl, ha G H (Same.refl _) hs.kn _ (Res.wp_mono (Res.wp_bind q) (fun x q vs G1 H1 s r => by
    have hs1 := hs.stp s
    refine ⟨without O H1, G1, O, d, .ref p, vs, x, by rw [List.append_nil], hs1.sub, obm _ _ _ _ _ s.gg ob, r, .mk (Res.wp_mono q (fun y q v G2 O2 H2 h2 ob2 e2 r2 => ?_) fun c fs z => xw_sub hs1 z)⟩
    exact q v G2 O2 H2 (s.gg.trans h2.g0) (hs1.back h2 e2) ob2 e2 r2) fun _ _ z => z)⟩
/-- f(o, ..), f writes o -/
theorem m_call {Sα : Rps β} {f : δ → β → Res (α × δ)} {t : TA} {a : Res β} (obm : ∀ d v G G' O, Same G G' → Ob d v G O → Ob d v G' O)
    (hx : EvV fm te σ G (La ++ (O ++ Lb)) v0) (ha : EvA K fm t σ G (La ++ (O ++ Lb)) Sα a) :
    EvM K fm (tCall (spM K fm.cl Ob Sα R f) [] fm.E (tCons te t)) σ G La O Lb Ob v0 d R (a.bind fun x => f d x) := fun H hs ob Q q =>
  hx G H (Same.refl _) hs.kn _ (ha G H (Same.refl _) hs.kn _ (Res.wp_mono (Res.wp_bind q) (fun x q vs G1 H1 s r => by
    have hs1 := hs.stp s
    refine ⟨without O H1, G1, O, d, v0, vs, x, by rw [List.append_nil], hs1.sub, obm _ _ _ _ _ s.gg ob, r, .mk (Res.wp_mono q (fun y q v G2 O2 H2 h2 ob2 e2 r2 => ?_) fun c fs z => xw_sub hs1 z)⟩
    exact q v G2 O2 H2 (s.gg.trans h2.g0) (hs1.back h2 e2) ob2 e2 r2) fun _ _ z => z))
theorem w_asgM {i : Nat} {mm : Res (α × δ)} {mk : α × δ → Res ρ} (he : EvM K fm te σ G La O Lb Ob v0 d R mm) (hs : Hs fm G (La ++ (O ++ Lb)) H) (ob : Ob d v0 G O) (hm : Wp (mm.bind mk) Q fm.xw)
    (k : ∀ x v G' O' H', Same G G' → Hs fm G' (La ++ (O' ++ Lb)) H' → Ob x.2 v0 G' O' → O'.map (·.1) = O.map (·.1) → R.r K G' v x.1 → Wp (mk x) Q fm.xw → tr D (σ.set i (some v)) H') : tSeq (tAsg te (gName i)) tr D σ H :=
  he H hs ob _ (Res.wp_mono (Res.wp_bind hm.out) (fun x q v G2 O2 H2 a b c e r => k x v G2 O2 H2 a b c e r (.mk q)) fun _ _ z => z)
theorem w_retM {mm : Res (α × δ)} {mk : α × δ → Res ρ} (he : EvM K fm te σ G La O Lb Ob v0 d R mm) (hs : Hs fm G (La ++ (O ++ Lb)) H) (ob : Ob d v0 G O) (hm : Wp (mm.bind mk) Q fm.xw)
    (k : ∀ x v G' O' H', Same G G' → Hs fm G' (La ++ (O' ++ Lb)) H' → Ob x.2 v0 G' O' → O'.map (·.1) = O.map (·.1) → R.r K G' v x.1 → Wp (mk x) Q fm.xw → D.rt v H') : tSeq (tRet te) tr D σ H :=
  he H hs ob _ (Res.wp_mono (Res.wp_bind hm.out) (fun x q v G2 O2 H2 a b c e r => k x v G2 O2 H2 a b c e r (.mk q)) fun _ _ z => z)
theorem w_retM0 {mm : Res (α × δ)} {Q : α × δ → Prop} (he : EvM K fm te σ G La O Lb Ob v0 d R mm) (hs : Hs fm G (La ++ (O ++ Lb)) H) (ob : Ob d v0 G O) (hm : Wp mm Q fm.xw)
    (k : ∀ x v G' O' H', Same G G' → Hs fm G' (La ++ (O' ++ Lb)) H' → Ob x.2 v0 G' O' → O'.map (·.1) = O.map (·.1) → R.r K G' v x.1 → Q x → D.rt v H') : tSeq (tRet te) tr D σ H :=
  he H hs ob _ (Res.wp_mono hm.out (fun x q v G2 O2 H2 a b c e r => k x v G2 O2 H2 a b c e r q) fun _ _ z => z)
/-! max of a list, of two -/
def maxL : List Int → Int
  | [] => 0
  | x :: xs => xs.foldl max x
theorem foldl_max : ∀ (xs : List Int) (x : Int), (xs.foldl max x = x ∨ xs.foldl max x ∈ xs) ∧ x ≤ xs.foldl max x ∧ ∀ y ∈ xs, y ≤ xs.foldl max x
  | [], x => ⟨.inl rfl, Int.le_refl _, fun y h => by cases h⟩
  | z :: xs, x => by
    obtain ⟨h1, h2, h3⟩ := foldl_max xs (max x z)
    rw [List.foldl_cons]
    refine ⟨?_, by omega, fun y hy => ?_⟩
    · rcases h1 with h | h
      · rw [h]
        by_cases hxz : x ≤ z
        · right; rw [Int.max_eq_right hxz]; exact List.mem_cons_self ..
        · left; exact Int.max_eq_left (by omega)
      · exact .inr (List.mem_cons_of_mem _ h)
    · rcases List.mem_cons.mp hy with rfl | hy
      · omega
      · exact h3 y hy
theorem maxL_mem {xs : List Int} (h : xs ≠ []) : maxL xs ∈ xs ∧ ∀ y ∈ xs, y ≤ maxL xs := by
  cases xs with
  | nil => exact absurd rfl h
  | cons x xs =>
    obtain ⟨h1, h2, h3⟩ := foldl_max xs x
    refine ⟨?_, fun y hy => ?_⟩
    · rcases h1 with h | h
      · show xs.foldl max x ∈ _; rw [h]; exact List.mem_cons_self ..
      · exact List.mem_cons_of_mem _ h
    · rcases List.mem_cons.mp hy with rfl | hy
      · exact h2
      · exact h3 y hy
def maxM (a : Res (List Int)) : Res Int := a.bind fun xs => if xs = [] then .stuck else .ok (maxL xs)
theorem e_maxL {m : Res (List Int)} (h : EvE K fm te σ G O (rL zI) m) : EvE K fm (tCB (rMax K) (tCons te tNil)) σ G O zI (maxM m) :=
  e_cb (a_one h) fun G1 H1 x vs k ⟨v, ev, p, ws, e, h, r⟩ Q q => by
    subst ev; subst e
    cases rls_enc (R := zI) (enc := V.int) (fun h => h) r
    by_cases hx : x = []
    · rw [if_pos hx] at q; exact q.elim
    · rw [if_neg hx] at q
      refine ⟨p, x, rfl, same_l k.gh h, List.length_pos_iff.mpr hx, fun m hm hu => ?_⟩
      obtain ⟨h1, h2⟩ := maxL_mem hx
      have : m = maxL x := Int.le_antisymm (h2 m hm) (hu _ h1)
      rw [this]
      exact q _ G1 H1 (Stp.refl k.gh) rfl
theorem w_retS {kr : α → ρ} (he : EvE K fm te σ G O R m) (hs : Hs fm G O H) (hm : Wp (m.bind fun r => .ok (kr r)) Q fm.xw)
    (k : ∀ r v G' H', Same G G' → Hs fm G' O H' → R.r K G' v r → Q (kr r) → D.rt v H') : tSeq (tRet te) tr D σ H :=
  he G H (Same.refl _) hs.kn _ (Res.wp_mono (Res.wp_bind hm.out) (fun x q v G2 H2 s r => k x v G2 H2 s.gg (hs.stp s) r q) fun _ _ z => z)
/-- xs.append(what writes the object), xs the own list at the place j -/
theorem w_appM {i : Nat} {l : Addr} {vs : List V} {xs : List α} {mm : Res (α × δ)} {mk : α × δ → Res ρ} (hx : σ[i]? = some (some (.ref l))) (hj : (l, HO.lst vs) ∈ La) (hlen : xs.length < lim) (hv : vs.length = xs.length)
    (he : EvM K fm te σ G La O Lb Ob v0 d R mm) (hs : Hs fm G (La ++ (O ++ Lb)) H) (ob : Ob d v0 G O) (hm : Wp (mm.bind mk) Q fm.xw)
    (k : ∀ x v G' O' H', Same G G' → Hs fm G' (La ++ (O' ++ Lb)) H' → Ob x.2 v0 G' O' → O'.map (·.1) = O.map (·.1) → R.r K G' v x.1 → Wp (mk x) Q fm.xw → tr D σ (upd H' l (.lst (vs ++ [v])))) : tSeq (tDrop (tBM K "list" rAppend (tVar i) (tCons te tNil))) tr D σ H :=
  ⟨_, hx, .inl ⟨rfl, vs, SqL.of (hs.kn.own _ (List.mem_append_left _ hj))⟩, he H hs ob _ (Res.wp_mono (Res.wp_bind hm.out) (fun x q v G2 O2 H2 a b c e r =>
    ⟨l, vs, v, rfl, rfl, b.kn.own _ (List.mem_append_left _ hj), by rw [hv, ← lim_eq]; exact hlen, k x v G2 O2 H2 a b c e r (.mk q)⟩) fun _ _ z => z)⟩
end
end Mw

namespace Mw
open PySem PySem.Spec PyProof.Rows L2
/-! ### arguments that write the object -/
section
variable {α β γ δ ρ : Type} {K : PySem.W.Frag} {fm : Fm} {σ : L2.St} {G G' H H' : Hp} {O O' La Lb : Own}
variable {te ta tb tc t1 t2 : TE} {R : Rp α} {S : Rp β} {T : Rp γ} {m : Res α}
variable {Ob : δ → V → Hp → Own → Prop} {d : δ} {v0 : V}
theorem m_pure (obm : ∀ d v G G' O, Same G G' → Ob d v G O → Ob d v G' O) (he : EvE K fm te σ G (La ++ (O ++ Lb)) R m) : EvM K fm te σ G La O Lb Ob v0 d R (m.bind fun x => .ok (x, d)) := fun H hs ob Q q =>
  he G H (Same.refl _) hs.kn Q (Res.wp_mono (Res.wp_bind q) (fun x q v G2 H2 s r => q v G2 O H2 s.gg (hs.stp s) (obm _ _ _ _ _ s.gg ob) rfl r) fun _ _ z => z)
theorem m_ifExp {c : TT} {mc : Res Bool} {ma mb : Res (α × δ)} (obm : ∀ d v G G' O, Same G G' → Ob d v G O → Ob d v G' O) (hc : EvT fm c σ G (La ++ (O ++ Lb)) mc)
    (ha : ∀ G', Same G G' → EvM K fm ta σ G' La O Lb Ob v0 d R ma) (hb : ∀ G', Same G G' → EvM K fm tb σ G' La O Lb Ob v0 d R mb) : EvM K fm (tIf c ta tb) σ G La O Lb Ob v0 d R (Res.ite mc ma mb) := fun H hs ob Q q =>
  hc G H (Same.refl _) hs.kn _ (Res.wp_mono (Res.wp_bind q) (fun x q G2 H2 s => by
    have ob2 := obm _ _ _ _ _ s.gg ob
    cases x with
    | true => exact ha G2 s.gg H2 (hs.stp s) ob2 Q (Res.wp_mono q (fun y q v G3 O3 H3 e => q v G3 O3 H3 (s.gg.trans e)) fun _ _ z => z)
    | false => exact hb G2 s.gg H2 (hs.stp s) ob2 Q (Res.wp_mono q (fun y q v G3 O3 H3 e => q v G3 O3 H3 (s.gg.trans e)) fun _ _ z => z)) fun _ _ z => z)
/-- o.m(a, b), b writes o, and so does m -/
theorem m_meth2 {f : δ → Int × Int → Res (α × δ)} {mt : Str} {p C dx : Addr} {fs : List (Str × V)} {m1 : Res Int} {mm2 : Res (Int × δ)} (obm : ∀ d v G G' O, Same G G' → Ob d v G O → Ob d v G' O)
    (hx : EvV fm te σ G (La ++ (O ++ Lb)) (.ref p)) (ho : (p, .ins C dx fs) ∈ La ++ (O ++ Lb)) (hl : fs.lookup mt = none) (h1 : EvE K fm t1 σ G (La ++ (O ++ Lb)) zI m1) (h2 : ∀ G', Same G G' → EvM K fm t2 σ G' La O Lb Ob (.ref p) d zI mm2) :
    EvM K fm (tMeth C mt (spM K fm.cl Ob (rsC zI (rs1 zI)) R f) [] fm.E te (tCons t1 (tCons t2 tNil))) σ G La O Lb Ob (.ref p) d R (m1.bind fun x => mm2.bind fun y => f y.2 (x, y.1)) := fun H hs ob Q q =>
  hx G H (Same.refl _) hs.kn _ ⟨p, dx, fs, rfl, hs.kn.own _ ho, hl, h1 G H (Same.refl _) hs.kn _ (Res.wp_mono (Res.wp_bind q) (fun x q v G1 H1 s r => by
    cases (show v = V.int x from r)
    refine h2 G1 s.gg H1 (hs.stp s) (obm _ _ _ _ _ s.gg ob) _ (Res.wp_mono (Res.wp_bind q) (fun y q w G2 O2 H2 e2 hs2 ob2 ea2 r2 => ?_) fun _ _ z => z)
    cases (show w = V.int y.1 from r2)
    refine ⟨without O2 H2, G2, O2, y.2, .ref p, _, (x, y.1), by rw [List.append_nil], hs2.sub, ob2, ⟨_, _, rfl, rfl, _, rfl, rfl⟩, .mk (Res.wp_mono q (fun z q v G3 O3 H3 h3 ob3 e3 r3 => ?_) fun c fs z => xw_sub hs2 z)⟩
    exact q v G3 O3 H3 ((s.gg.trans e2).trans h3.g0) (hs2.back h3 e3) ob3 (e3.trans ea2) r3) fun _ _ z => z)⟩
end
end Mw

namespace Mw
open PySem PySem.Spec PyProof.Rows L2
/-! ### enumerate(a tuple) -/
def IteT (K : PySem.W.Frag) (a : Addr) : It where
  go := fun i H => ∃ (xs : List V) (x : V), SqT K H a xs ∧ xs[i]? = some x
  yld := fun i H v H' => ∃ T x, v = .ref T ∧ H T = none ∧ H' = upd H T (.tup [.int (i : Nat), x]) ∧ ∀ xs, SqT K H a xs → xs[i]? = some x
  stop := fun i H => ∃ xs : List V, SqT K H a xs ∧ xs.length ≤ i
theorem ne_iter {h : Heap} {a it : Addr} {items : Array Value} {i : Nat} (ht : h.IsTuple a items) (hi : h.IsTupleIter it a i) : a ≠ it := by
  rintro rfl
  obtain ⟨o, ho, hc, _⟩ := ht
  obtain ⟨o', ho', hc', _⟩ := hi
  rw [ho] at ho'
  cases ho'
  rw [hc] at hc'
  exact absurd hc' (by decide)
theorem draws_out {prog : Program} {w : World} {A : Around} (hh : A.handled = none) (it t : Addr) (i : Nat) {items : Array Value} (hn : items[i]? = none) :
    Draws prog w A it [it, t] i (fun _ _ => True) (fun k h => k = i ∧ h.IsTupleIter it t i ∧ h.IsTuple t items) where
  live := fun _ _ st => let ⟨o, ho, _⟩ := st.2.1; ⟨o, ho⟩
  frame := fun _ _ _ st hk => ⟨st.1, st.2.1.at fun o e => hk it (by simp) o e, st.2.2.at fun o e => hk t (by simp) o e⟩
  item := fun k s Q E hi st hQ => absurd st.1 (by omega)
  done := fun s Q E st hE => wpAny_nextOf_tuple_end hh st.2.1 st.2.2 hn hE
theorem turn_enumT {P : Program} {w : World} {K : PySem.W.Frag} {elts : List Expr} {kk : Nat} {tpos : Pos} (a e it : Addr) : Turn P w K (.Tuple elts kk tpos) (IteT K a) [e, it] e (fun i h => (∃ old, IsEnum h e it ((i : Nat) : Int) old) ∧ h.IsTupleIter it a i ∧ e ≠ it) where
  mem := List.mem_cons_self ..
  obj := fun i h ⟨⟨old, he⟩, ⟨o, ho, hc, hd⟩, _⟩ b hb => by
    rcases List.mem_cons.mp hb with rfl | hb
    · exact ⟨_, he, fun v q => nomatch q⟩
    · rw [List.mem_singleton.mp hb]; exact ⟨o, ho, fun v q => by rw [hd] at q; cases q⟩
  keep := fun i h h' ⟨⟨old, he⟩, hi, hne⟩ k => ⟨⟨old, k e (List.mem_cons_self ..) _ he⟩, hi.at fun o q => k it (List.mem_cons_of_mem _ (List.mem_cons_self ..)) o q, hne⟩
  item := by
    rintro X rfl rfl rfl hc i pins s σ H E I hf ⟨⟨old, he⟩, hit, hne⟩ ⟨xs, x, hq, hx⟩
    obtain ⟨its, rv, p, _⟩ := I.tuple hq
    obtain ⟨u, hu, ru⟩ := rv.get hx
    have hlt : i < its.toArray.size := by simpa using (List.getElem?_eq_some_iff.mp hu).1
    have hea : e ≠ a := by
      rintro rfl
      obtain ⟨o, ho, hcl, _⟩ := p
      rw [show s.heap.get? e = some _ from he] at ho
      cases ho
      simp at hcl
    refine wpAny_pyNext_enum_itemD (Draws.tuple (prog := X.prog) (w := X.w) (A := X.A.in1) (show X.A.in1.handled = none from I.ok.hd hc) it a (ne_iter p hit) its.toArray) he ⟨hit, p⟩ hlt hne (by simp [hne, hea]) fun x' h1 tk hP ho st1 hT hsz hk => ?_
    have ex : x' = u := by
      have : its.toArray[i]? = some u := by simpa using hu
      rw [this] at hP
      exact (Option.some.inj hP).symm
    subst ex
    have hel := Heap.lt_size (show s.heap.get? e = some _ from he)
    have hil : it < s.heap.objs.size := Heap.lt_size hit.choose_spec.1
    refine ⟨_, rfl, wpAny_letOwnedTupleGo_enum (s := { s with heap := h1, toks := tk + 1 }) ho fun h2 he2 sb => ?_⟩
    have hT2 := (sb.2 _ (Nat.ne_of_gt hel)).trans hT
    have nw : ObjOk X.prog X.w (upd H s.heap.objs.size (.tup [.int (i : Nat), x])) h2 s.heap.objs.size (.tup [.int (i : Nat), x]) := ⟨by rw [sizeLine_eq]; simp, _, .cons ⟨_, rfl⟩ (.cons ru .nil), ⟨_, hT2, rfl, _, rfl⟩⟩
    have I1 := I.turnedNew (ch := [e, it]) (h' := h2) (t' := tk + 1) (fun b ob hb q => (sb.2 b (fun z => hb (by simp [z]))).trans (hk b ob (fun z => hb (by simp [z])) (fun z => hb (by simp [z])) q)) hf (Nat.le_refl _) nw
    have e1 : ((i + 1 : Nat) : Int) = (i : Int) + 1 := by omega
    exact ⟨.ref s.heap.objs.size, _, I1, rfl, ⟨_, x, rfl, I.hok.fresh (Nat.le_refl _), rfl, fun ys hy => by rw [I.tuple_inj hy hq]; exact hx⟩, ⟨⟨x', by rw [e1]; exact he2⟩, st1.1.at fun o q => (sb.2 it (Ne.symm hne)).trans q, hne⟩, fun b hb => by
      have hb' : b < s.heap.objs.size := by
        rcases List.mem_cons.mp hb with rfl | hb
        · exact hel
        · rw [List.mem_singleton.mp hb]; exact hil
      rw [upd_ne (Nat.ne_of_lt hb')]
      exact (hf b hb).1⟩
  done := by
    rintro X rfl rfl rfl hc i pins s σ H E I hf ⟨⟨old, he⟩, hit, hne⟩ ⟨xs, hq, hx⟩
    obtain ⟨its, rv, p, _⟩ := I.tuple hq
    obtain ⟨f0, f1, f2, f3, f4, f5⟩ := hf it (by simp)
    have hl := rv.length
    have hn : its.toArray[i]? = none := by simp; omega
    exact wpAny_pyNext_enum_endD (draws_out (prog := X.prog) (w := X.w) (A := X.A.in1) (show X.A.in1.handled = none from I.ok.hd hc) it a i hn) he ⟨rfl, hit, p⟩ fun h' eb => ⟨rfl, I.turned (t' := s.toks) (fun b o hb q => eb b o hb q) f0 f1 f3 f4 f5⟩
  self := fun A i s Q E ⟨⟨_, he⟩, _⟩ h => wpAny_pyIter_enum he h
/-- enumerate(v): an iterator of v, and the count over it -/
theorem meets_enum1 {v : Value} {o : Obj} {Hv : Heap → Prop} (B : Begins v o Hv) : Meets (Builtin.«enumerate.__new__» ⟨[.type "enumerate", v], []⟩) (fun _ R s => Hv s.heap ∧
    R (.ok (.ret (.ref (s.heap.push o).objs.size))) { s with heap := (s.heap.push o).push { cls := .type "enumerate", data := .fields #[.none, .bool false, .ref s.heap.objs.size, rawInt 0, .none, .none] } }) :=
  .of_wp fun pr wo Ar Rr sh hh => by
    obtain ⟨h0, g0, d0, t0, o0⟩ := sh
    obtain ⟨hv, hr⟩ := hh
    have sE := sub_enumerate
    have go : ∀ {A2 : Around} {E2 : Value → Shared → Prop} {Q2 : Value → Shared → Prop}, Q2 (.ref h0.objs.size) ⟨h0.push o, g0, d0, t0, o0⟩ → wpAny (model pr wo) A2 (pyIter v) Q2 E2 ⟨h0, g0, d0, t0, o0⟩ := fun q2 => B.iter pr wo _ _ ⟨h0, g0, d0, t0, o0⟩ _ hv q2
    wp_walk using go
    refine wpAny_stack_any fun stk => wpAny_pure ?_
    split
    · rename_i cc _ _ _ _ _
      cases (cc == Value.type "enumerate") <;> (wp_walk using go; exact ⟨_, rfl, hr⟩)
    · wp_walk using go
      exact ⟨_, rfl, hr⟩
section
variable {prog : Program} {w : World} {A : Around} {E : Value → Shared → Prop} {s : Shared}
theorem call_enumT {l : Addr} {items : Array Value} {Q : Value → Shared → Prop} (hL : s.heap.IsTuple l items)
    (h : ∀ h', IsEnum h' (s.heap.objs.size + 1) s.heap.objs.size 0 .none → h'.IsTupleIter s.heap.objs.size l 0 → (∀ b o, s.heap.get? b = some o → h'.get? b = some o) → Q (.ref (s.heap.objs.size + 1)) { s with heap := h' }) :
    wpAny (model prog w) A (call (.type "enumerate") [.ref l]) Q E s := by
  have B := begins_tuple l items
  refine callType_new F.called_enumerate (by decide) (F.typeCall_enumerate_1 _) (F.newCall_enumerate_1 _) (fun obj => F.args_object_init_2 obj _) F.entry_enumerate_new (meets_enum1 B) ⟨hL, ?_⟩
  generalize ho : ({ cls := .type "tuple_iterator", data := .fields #[.ref l, .int 0 0] } : Obj) = o at *
  have hz : (s.heap.push o).objs.size = s.heap.objs.size + 1 := Heap.size_push ..
  have fr : o.isFreed = false := B.free
  show _ ∧ _
  rw [hz]
  have hen : IsEnum ((s.heap.push o).push { cls := .type "enumerate", data := .fields #[.none, .bool false, .ref s.heap.objs.size, rawInt 0, .none, .none] }) (s.heap.objs.size + 1) s.heap.objs.size 0 .none := by
    have q := Heap.get?_push_size (s.heap.push o) (o := { cls := .type "enumerate", data := .fields #[.none, .bool false, .ref s.heap.objs.size, rawInt 0, .none, .none] }) rfl
    rwa [hz] at q
  exact ⟨⟨_, hen, rfl⟩, h _ hen (by subst ho; exact ⟨_, Heap.get?_push_of_some _ (Heap.get?_push_size _ rfl), rfl, rfl⟩) fun b u x => Heap.get?_push_of_some _ (Heap.get?_push_of_some _ x)⟩
end
def iEnumT (K : PySem.W.Frag) (ta : TA) : TI := fun σ H R => ta σ H fun vs H1 => ∃ a xs, vs = [.ref a] ∧ SqT K H1 a xs ∧ R (IteT K a) H1
theorem pi_enumT {X : Cx} {e : Expr} {ta : TA} {p pos tpos : Pos} {elts : List Expr} {kk : Nat} (hg : Gl X "enumerate") (hm : X.mg "enumerate" = none) (ha : PA X [e] ta) (hs : starEach [e] X.env = [(false, eval e X.env)] := by rfl) :
    PI X (.Tuple elts kk tpos) (.Call (.Name "enumerate" p) [e] [] pos) (iEnumT X.K ta) := ⟨fun pins s σ H R I h => Call_ (ld_blt I hg hm boot_enumerate (PyProof.Rows.callWith_type1 (thn (ha.run pos pins s σ H _ I h) fun us s1 ⟨vs, H1, I1, r1, a, xs, ex, hq, q⟩ => by
  subst ex
  obtain ⟨its, rv, p', _⟩ := I1.tuple hq
  cases r1 with
  | cons r rr =>
    cases rr
    cases r
    refine call_enumT p' fun h' he hit hk => wpAny_pyIter_enum he ?_
    refine ⟨s1.heap.objs.size + 1, [s1.heap.objs.size + 1, s1.heap.objs.size], _, _, H1, rfl, I1.kept (t' := s1.toks) hk, turn_enumT a (s1.heap.objs.size + 1) s1.heap.objs.size, ⟨⟨.none, he⟩, hit, Nat.succ_ne_self _⟩, fun b hb => ?_, q⟩
    have hle : s1.heap.objs.size ≤ b := by
      rcases List.mem_cons.mp hb with rfl | hb
      · exact Nat.le_succ _
      · rw [List.mem_singleton.mp hb]; exact Nat.le_refl _
    exact I1.fpOk hle (I1.hok.fresh hle)) hs rfl))⟩
section
variable {α : Type} {K : PySem.W.Frag} {fm : Fm} {σ : L2.St} {G : Hp} {O : Own} {te : TE} {R : Rp α}
theorem iteT_ok {p : Addr} {vs : List V} {xs : List α} (h : SqT K G p vs) (r : RLs R K G vs xs) : ItOk K G [] (rP2 zI R) (IteT K p) (enumL xs) where
  go := fun i G1 H a b _ hi => by
    rw [enumL_length] at hi
    obtain ⟨x, hx⟩ := paired_lt r hi
    exact ⟨vs, x, same_t (a.trans b) h, hx⟩
  stop := fun G1 H a b _ => ⟨vs, same_t (a.trans b) h, by rw [enumL_length]; exact Nat.le_of_eq (Paired.length r)⟩
  yld := fun i G1 H v H' a b _ hi y => by
    obtain ⟨p', x, ev, hp, eH, y⟩ := y
    subst ev eH
    obtain ⟨z, hz, rz⟩ := paired_get r (y vs (same_t (a.trans b) h))
    refine ⟨((i : Int), z), _, by simp [enumL, List.getElem?_mapIdx, hz], Stp.new b hp, p', _, rfl, .inl (.inl upd_same), _, _, rfl, rfl, _, rfl, R.mono (a.trans (same_new (same_back b hp))) rz⟩
theorem i_enumT {m : Res (List α)} (h : EvE K fm te σ G O (rT R) m) : EvI K fm (iEnumT K (tCons te tNil)) σ G O [] (rP2 zI R) (enumM m) := fun G1 H1 e k Q q =>
  h G1 H1 e k _ (Res.wp_mono (Res.wp_bind q) (fun xs f v G2 H2 s ⟨p, vs, ev, hq, r⟩ => by
    subst ev
    exact ⟨p, vs, rfl, same_t s.gh hq, f _ G2 H2 s (iteT_ok hq r)⟩) fun _ _ z => z)
end
end Mw

namespace Mw
open PySem PySem.Spec PyProof.Rows L2
/-! ### expressions that write one object, its state handed on -/
section
variable {fm : Fm} {G G' H H' : Hp} {O O' La Lb : Own}
theorem Hs.back2 (hs : Hs fm G (La ++ (O ++ Lb)) H) (h : Hs ⟨without O H, G, fm.E, fm.cl⟩ G' O' H') : Hs fm G' (La ++ (O' ++ Lb)) H' := by
  have nd := hs.nd
  rw [List.map_append, List.map_append] at nd
  obtain ⟨n1, n2, n3⟩ := List.nodup_append.mp nd
  obtain ⟨n4, n5, n6⟩ := List.nodup_append.mp n2
  have fo : ∀ b o, fm.F b = some o → b ∉ O.map (·.1) := fun b o hb hm => by
    obtain ⟨p, hp, rfl⟩ := List.mem_map.mp hm
    have := (hs.own p (List.mem_append_right _ (List.mem_append_left _ hp))).2.2
    rw [this] at hb
    cases hb
  have oth : ∀ p : Addr × HO, p ∈ La ++ (O ++ Lb) → p.1 ∉ O.map (·.1) → without O H p.1 = some p.2 ∧ H' p.1 = some p.2 ∧ G' p.1 = none ∧ fm.F p.1 = none := fun p hp ho => by
    obtain ⟨a, b, c⟩ := hs.own p hp
    have w : without O H p.1 = some p.2 := (without_out ho).trans a
    exact ⟨w, h.fr _ _ w, (h.old _ _ w).trans b, c⟩
  have inA : ∀ p, p ∈ La → p.1 ∉ O.map (·.1) := fun p hp hm => n3 p.1 (List.mem_map.mpr ⟨p, hp, rfl⟩) p.1 (List.mem_append_left _ hm) rfl
  have inB : ∀ p, p ∈ Lb → p.1 ∉ O.map (·.1) := fun p hp hm => n6 p.1 hm p.1 (List.mem_map.mpr ⟨p, hp, rfl⟩) rfl
  have dis : ∀ p : Addr × HO, p ∈ La ++ (O ++ Lb) → p.1 ∉ O.map (·.1) → ∀ q ∈ O', q.1 ≠ p.1 := fun p hp ho q hq e => by
    have w := (oth p hp ho).1
    have f := (h.own q hq).2.2
    rw [show ({ F := without O H, G0 := G, E := fm.E, cl := fm.cl } : Fm).F q.1 = without O H q.1 from rfl, e, w] at f
    cases f
  refine ⟨fun b o hb => h.fr b o ((without_out (fo b o hb)).trans (hs.fr b o hb)), hs.g0.trans h.g0, h.gh, fun b o hb => (h.old b o ((without_out (fo b o hb)).trans (hs.fr b o hb))).trans (hs.old b o hb), fun p hp => ?_, ?_⟩
  · rcases List.mem_append.mp hp with hp | hp
    · exact (oth p (List.mem_append_left _ hp) (inA p hp)).2
    · rcases List.mem_append.mp hp with hp | hp
      · obtain ⟨a, b, c⟩ := h.own p hp
        refine ⟨a, b, ?_⟩
        cases hf : fm.F p.1 with
        | none => rfl
        | some o =>
          have c' : without O H p.1 = none := c
          rw [without_out (fo _ _ hf), hs.fr _ _ hf] at c'
          cases c'
      · exact (oth p (List.mem_append_right _ (List.mem_append_right _ hp)) (inB p hp)).2
  · rw [List.map_append, List.map_append]
    refine List.nodup_append.mpr ⟨n1, List.nodup_append.mpr ⟨h.nd, n5, ?_⟩, ?_⟩
    · intro a ha b hb e
      obtain ⟨q, hq, rfl⟩ := List.mem_map.mp ha
      obtain ⟨p, hp, rfl⟩ := List.mem_map.mp hb
      exact dis p (List.mem_append_right _ (List.mem_append_right _ hp)) (inB p hp) q hq e
    · intro a ha b hb e
      obtain ⟨p, hp, rfl⟩ := List.mem_map.mp ha
      rcases List.mem_append.mp hb with hb | hb
      · obtain ⟨q, hq, rfl⟩ := List.mem_map.mp hb
        exact dis p (List.mem_append_left _ hp) (inA p hp) q hq e.symm
      · exact n3 p.1 ha b (List.mem_append_right _ hb) e
theorem Hs.perm {fm : Fm} {G H : Hp} {O O' : Own} (h : Hs fm G O H) (e : O'.Perm O) : Hs fm G O' H :=
  ⟨h.fr, h.g0, h.gh, h.old, fun p hp => h.own p (e.mem_iff.mp hp), (e.map _).nodup_iff.mpr h.nd⟩
/-- fewer cells of one's own -/
theorem Hs.less {fm : Fm} {G H : Hp} {O O' : Own} (h : Hs fm G O H) (e : O'.Sublist O) : Hs fm G O' H :=
  ⟨h.fr, h.g0, h.gh, h.old, fun p hp => h.own p (e.subset hp), (e.map _).nodup h.nd⟩
theorem Hs.only (h : Hs fm G (La ++ (O ++ Lb)) H) : Hs fm G O H := h.less ((List.sublist_append_left O Lb).trans (List.sublist_append_right La _))
theorem Hs.cut (h : Hs fm G (La ++ (O ++ Lb)) H) : Hs fm G La H := h.less (List.sublist_append_left La _)
theorem Hs.wrap (h : Hs fm G O H) : Hs fm G ([] ++ (O ++ [])) H := by rw [List.nil_append, List.append_nil]; exact h
end
def Obm {δ : Type} (Ob : δ → V → Hp → Own → Prop) : Prop := ∀ (d : δ) v G G' O, Same G G' → Ob d v G O → Ob d v G' O
/-- the place of the object among the arguments -/
def rsV {α : Type} (v0 : V) (S : Rps α) : Rps α := ⟨fun K G vs a => ∃ r, vs = v0 :: r ∧ S.r K G r a, fun e ⟨r, h, q⟩ => ⟨r, h, S.mono e q⟩⟩
def rs0 : Rps Unit := ⟨fun _ _ vs _ => vs = [], fun _ h => h⟩
/-- what a def that writes an object promises -/
def spN {α β δ : Type} (K : PySem.W.Frag) (cl : Nat → Addr) (Ob : δ → V → Hp → Own → Prop) (S : V → Rps α) (R : Rp β) (f : δ → α → Res (β × δ)) : Sp := fun vs H Q E => ∃ F G O d v0 a, Hs ⟨F, G, E, cl⟩ G O H ∧ Ob d v0 G O ∧ (S v0).r K G vs a ∧
  Wp (f d a) (fun x => ∀ v G' O' H', Hs ⟨F, G, E, cl⟩ G' O' H' → Ob x.2 v0 G' O' → R.r K G' v x.1 → Q v H') (Fm.xw ⟨F, G, E, cl⟩)
theorem spN_of {α β δ : Type} {K : PySem.W.Frag} {cl : Nat → Addr} {Ob : δ → V → Hp → Own → Prop} {S : Rps α} {R : Rp β} {f : δ → α → Res (β × δ)} (vs : List V) (H : Hp) (Q : VK) (E : XK)
    (h : spN K cl Ob (fun v0 => rsV v0 S) R f vs H Q E) : spM K cl Ob S R f vs H Q E := by
  obtain ⟨F, G, O, d, v0, a, hs, ob, ⟨r, rfl, hS⟩, hm⟩ := h
  exact ⟨F, G, O, d, v0, r, a, rfl, hs, ob, hS, .mk (Res.wp_mono hm.out (fun x q v G' O' H' h1 h2 _ h3 => q v G' O' H' h1 h2 h3) fun _ _ z => z)⟩
/-! state combinators -/
def pureS {α δ : Type} (m : δ → Res α) : δ → Res (α × δ) := fun d => (m d).bind fun x => .ok (x, d)
def pairS {α β δ : Type} (f : δ → Res (α × δ)) (g : δ → Res (β × δ)) : δ → Res ((α × β) × δ) := fun d => (f d).bind fun x => (g x.2).bind fun y => .ok ((x.1, y.1), y.2)
def callS {α β δ : Type} (f : δ → Res (α × δ)) (h : δ → α → Res (β × δ)) : δ → Res (β × δ) := fun d => (f d).bind fun x => h x.2 x.1
def mapS {α β δ : Type} (f : δ → Res (α × δ)) (h : α → Res β) : δ → Res (β × δ) := fun d => (f d).bind fun x => (h x.1).bind fun y => .ok (y, x.2)
def map2S {α β γ δ : Type} (f : δ → Res (α × δ)) (g : δ → Res (β × δ)) (h : α → β → Res γ) : δ → Res (γ × δ) := fun d => (f d).bind fun x => (g x.2).bind fun y => (h x.1 y.1).bind fun z => .ok (z, y.2)
def readS {α β δ : Type} (f : δ → Res (α × δ)) (h : δ → α → Res β) : δ → Res (β × δ) := fun d => (f d).bind fun x => (h x.2 x.1).bind fun y => .ok (y, x.2)
def iteS {α δ : Type} (c : δ → Res (Bool × δ)) (a b : δ → Res (α × δ)) : δ → Res (α × δ) := fun d => (c d).bind fun x => if x.1 = true then a x.2 else b x.2
def andS {δ : Type} (c a : δ → Res (Bool × δ)) : δ → Res (Bool × δ) := fun d => (c d).bind fun x => if x.1 = true then a x.2 else .ok (false, x.2)
def orS {δ : Type} (c a : δ → Res (Bool × δ)) : δ → Res (Bool × δ) := fun d => (c d).bind fun x => if x.1 = true then .ok (true, x.2) else a x.2
section
variable {α β γ δ ε ρ : Type} (K : PySem.W.Frag) (fm : Fm) (σ : L2.St) (G : Hp) (La Lb : Own) (Ob : δ → V → Hp → Own → Prop) (v0 : V)
def EvS (te : TE) (R : Rp α) (f : δ → Res (α × δ)) : Prop := ∀ d O G1 H1, Same G G1 → Hs fm G1 (La ++ (O ++ Lb)) H1 → Ob d v0 G1 O → ∀ Q : VK,
  (f d).wp (fun x => ∀ v G2 O2 H2, Same G1 G2 → Hs fm G2 (La ++ (O2 ++ Lb)) H2 → Ob x.2 v0 G2 O2 → R.r K G2 v x.1 → Q v H2) fm.xw → te σ H1 Q
def EvSA (ta : TA) (S : Rps α) (f : δ → Res (α × δ)) : Prop := ∀ d O G1 H1, Same G G1 → Hs fm G1 (La ++ (O ++ Lb)) H1 → Ob d v0 G1 O → ∀ Q : List V → Hp → Prop,
  (f d).wp (fun x => ∀ vs G2 O2 H2, Same G1 G2 → Hs fm G2 (La ++ (O2 ++ Lb)) H2 → Ob x.2 v0 G2 O2 → S.r K G2 vs x.1 → Q vs H2) fm.xw → ta σ H1 Q
def EvST (tt : TT) (f : δ → Res (Bool × δ)) : Prop := ∀ d O G1 H1, Same G G1 → Hs fm G1 (La ++ (O ++ Lb)) H1 → Ob d v0 G1 O → ∀ Q : Bool → Hp → Prop,
  (f d).wp (fun x => ∀ G2 O2 H2, Same G1 G2 → Hs fm G2 (La ++ (O2 ++ Lb)) H2 → Ob x.2 v0 G2 O2 → Q x.1 H2) fm.xw → tt σ H1 Q
end
/-- an object of the class at C, a method's name that no field has -/
def ObjM {δ : Type} (C : Addr) (Ob : δ → V → Hp → Own → Prop) (mt : Str) : Prop := ∀ d v G O, Ob d v G O → ∃ p dx fs, v = .ref p ∧ (p, .ins C dx fs) ∈ O ∧ fs.lookup mt = none
/-- the object as a value that is read -/
def Lends {δ ε : Type} (K : PySem.W.Frag) (Ob : δ → V → Hp → Own → Prop) (Ro : Rp ε) (ro : δ → ε) : Prop := ∀ fm d v G O O' H, Kn fm G O' H → (∀ p ∈ O, p ∈ O') → Ob d v G O → ∃ Gl, Same G Gl ∧ Same Gl H ∧ Ro.r K Gl v (ro d)
/-- the object's place becomes the read value's -/
structure Conv {α ε α' : Type} (K : PySem.W.Frag) (v0 : V) (S : Rps α) (Ro : Rp ε) (S' : Rps α') (ins : ε → α → α') : Prop where
  go : ∀ G vs a e, S.r K G vs a → Ro.r K G v0 e → S'.r K G vs (ins e a)
section
variable {α β γ δ ε ρ α' : Type} {K : PySem.W.Frag} {fm : Fm} {σ : L2.St} {G G' H H' : Hp} {O O' La Lb : Own} {Ob : δ → V → Hp → Own → Prop} {v0 : V} {d : δ}
variable {te ta tb tc : TE} {R : Rp α} {S : Rp β} {T : Rp γ} {m : Res α} {n : Res β} {f : δ → Res (α × δ)} {g : δ → Res (β × δ)}
variable {D : Ends} {tr tt tu tw : TS} {Q : ρ → Prop}
theorem cv_here {S : Rps α} {Ro : Rp ε} : Conv K v0 (rsV v0 S) Ro (rsC Ro S) (fun e a => (e, a)) := ⟨fun G vs a e ⟨r, h1, h2⟩ h3 => ⟨v0, r, h1, h3, h2⟩⟩
theorem cv_last {Ro : Rp ε} : Conv K v0 (rsV v0 rs0) Ro (rs1 Ro) (fun e _ => e) := ⟨fun G vs a e ⟨r, h1, h2⟩ h3 => ⟨v0, by rw [h1]; rw [show r = [] from h2], h3⟩⟩
theorem cv_next {S : Rps β} {Ro : Rp ε} {S' : Rps α'} {ins : ε → β → α'} (h : Conv K v0 S Ro S' ins) : Conv K v0 (rsC R S) Ro (rsC R S') (fun e a => (a.1, ins e a.2)) := ⟨fun G vs a e ⟨v, r, h1, h2, h3⟩ h4 => ⟨v, r, h1, h2, h.go _ _ _ _ h3 h4⟩⟩
theorem e_cv {v : V} {x : α} (r : R.r K G v x) : EvE K fm (tC v) σ G O R (.ok x) := fun G1 H1 a k Q q => q v G1 H1 (Stp.refl k.gh) (R.mono a r)
theorem z_pure {f : δ → Res α} (obm : Obm Ob) (h : ∀ d O G', Same G G' → Ob d v0 G' O → EvE K fm te σ G' (La ++ (O ++ Lb)) R (f d)) : EvS K fm σ G La Lb Ob v0 te R (pureS f) := fun d O G1 H1 e hs ob Q q =>
  h d O G1 e ob G1 H1 (Same.refl _) hs.kn Q (Res.wp_mono (Res.wp_bind q) (fun x q v G2 H2 s r => q v G2 O H2 s.gg (hs.stp s) (obm _ _ _ _ _ s.gg ob) r) fun _ _ z => z)
theorem z_pure0 (obm : Obm Ob) (h : ∀ O, EvE K fm te σ G (La ++ (O ++ Lb)) R m) : EvS K fm σ G La Lb Ob v0 te R (pureS fun _ => m) := z_pure obm fun d O G' e _ => (h O).mono e
theorem zt_pure {tt : TT} {f : δ → Res Bool} (obm : Obm Ob) (h : ∀ d O G', Same G G' → Ob d v0 G' O → EvT fm tt σ G' (La ++ (O ++ Lb)) (f d)) : EvST fm σ G La Lb Ob v0 tt (pureS f) := fun d O G1 H1 e hs ob Q q =>
  h d O G1 e ob G1 H1 (Same.refl _) hs.kn Q (Res.wp_mono (Res.wp_bind q) (fun x q G2 H2 s => q G2 O H2 s.gg (hs.stp s) (obm _ _ _ _ _ s.gg ob)) fun _ _ z => z)
theorem zt_pure0 {tt : TT} {m : Res Bool} (obm : Obm Ob) (h : ∀ O, EvT fm tt σ G (La ++ (O ++ Lb)) m) : EvST fm σ G La Lb Ob v0 tt (pureS fun _ => m) := zt_pure obm fun d O G' e _ => (h O).mono e
/-! arguments -/
theorem zA_nil : EvSA K fm σ G La Lb Ob v0 tNil rs0 (pureS fun _ => .ok ()) := fun d O G1 H1 e hs ob Q q => q [] G1 O H1 (Same.refl _) hs ob rfl
theorem zA_one (h : EvS K fm σ G La Lb Ob v0 te R f) : EvSA K fm σ G La Lb Ob v0 (tCons te tNil) (rs1 R) f := fun d O G1 H1 e hs ob Q q =>
  h d O G1 H1 e hs ob _ (Res.wp_mono q (fun x q v G2 O2 H2 e2 hs2 ob2 r => q [v] G2 O2 H2 e2 hs2 ob2 ⟨v, rfl, r⟩) fun _ _ z => z)
theorem zA_cons {S : Rps β} {t : TA} (h : EvS K fm σ G La Lb Ob v0 te R f) (hr : EvSA K fm σ G La Lb Ob v0 t S g) : EvSA K fm σ G La Lb Ob v0 (tCons te t) (rsC R S) (pairS f g) := fun d O G1 H1 e hs ob Q q =>
  h d O G1 H1 e hs ob _ (Res.wp_mono (Res.wp_bind q) (fun x q v G2 O2 H2 e2 hs2 ob2 r =>
    hr x.2 O2 G2 H2 (e.trans e2) hs2 ob2 _ (Res.wp_mono (Res.wp_bind q) (fun y q vs G3 O3 H3 e3 hs3 ob3 r' => q (v :: vs) G3 O3 H3 (e2.trans e3) hs3 ob3 ⟨v, vs, rfl, R.mono e3 r, r'⟩) fun _ _ z => z)) fun _ _ z => z)
theorem zA_obj {S : Rps β} {t : TA} {i : Nat} (hv : σ[i]? = some (some v0)) (h : EvSA K fm σ G La Lb Ob v0 t S g) : EvSA K fm σ G La Lb Ob v0 (tCons (tVar i) t) (rsV v0 S) g := fun d O G1 H1 e hs ob Q q =>
  ⟨v0, hv, h d O G1 H1 e hs ob _ (Res.wp_mono q (fun y q vs G3 O3 H3 e3 hs3 ob3 r' => q (v0 :: vs) G3 O3 H3 e3 hs3 ob3 ⟨vs, rfl, r'⟩) fun _ _ z => z)⟩
/-! calls -/
theorem z_call {S : V → Rps β} {t : TA} {ma : δ → Res (β × δ)} {h : δ → β → Res (α × δ)} (ha : EvSA K fm σ G La Lb Ob v0 t (S v0) ma) : EvS K fm σ G La Lb Ob v0 (tCall (spN K fm.cl Ob S R h) [] fm.E t) R (callS ma h) := fun d O G1 H1 e hs ob Q q =>
  ha d O G1 H1 e hs ob _ (Res.wp_mono (Res.wp_bind q) (fun x q vs G2 O2 H2 e2 hs2 ob2 r =>
    ⟨without O2 H2, G2, O2, x.2, v0, x.1, hs2.sub, ob2, by rw [List.append_nil]; exact r, .mk (Res.wp_mono q (fun y q v G3 O3 H3 hs3 ob3 r3 => q v G3 O3 H3 (e2.trans hs3.g0) (hs2.back2 hs3) ob3 r3) fun c fs z => xw_sub hs2 z)⟩) fun _ _ z => z)
theorem z_callP {S : Rps β} {t : TA} {ma : δ → Res (β × δ)} {h : β → Res α} (obm : Obm Ob) (ha : EvSA K fm σ G La Lb Ob v0 t S ma) : EvS K fm σ G La Lb Ob v0 (tCall (spP K fm.cl S R h) [] fm.E t) R (mapS ma h) := fun d O G1 H1 e hs ob Q q =>
  ha d O G1 H1 e hs ob _ (Res.wp_mono (Res.wp_bind q) (fun x q vs G2 O2 H2 e2 hs2 ob2 r =>
    ⟨G2, x.1, hs2.gh, by rw [List.append_nil]; exact r, .mk (Res.wp_mono (Res.wp_bind q) (fun y q v G3 H3 s r3 => q v G3 O2 H3 (e2.trans s.gg) (hs2.stp s) (obm _ _ _ _ _ s.gg ob2) r3) fun c fs z H' dd a b => z H' dd (hs2.fr.trans a) b)⟩) fun _ _ z => z)
theorem z_callR {Sg : Rps β} {Ss : Rps α'} {ins : ε → β → α'} {Ro : Rp ε} {ro : δ → ε} {t : TA} {ma : δ → Res (β × δ)} {h : α' → Res α} (obm : Obm Ob) (L : Lends K Ob Ro ro) (sc : Sc R) (cv : Conv K v0 Sg Ro Ss ins) (ha : EvSA K fm σ G La Lb Ob v0 t Sg ma) :
    EvS K fm σ G La Lb Ob v0 (tCall (spP K fm.cl Ss R h) [] fm.E t) R (readS ma fun d a => h (ins (ro d) a)) := fun d O G1 H1 e hs ob Q q =>
  ha d O G1 H1 e hs ob _ (Res.wp_mono (Res.wp_bind q) (fun x q vs G2 O2 H2 e2 hs2 ob2 r => by
    obtain ⟨Gl, e3, e4, rr⟩ := L fm x.2 v0 G2 O2 _ H2 hs2.kn (fun p hp => List.mem_append_right _ (List.mem_append_left _ hp)) ob2
    exact ⟨Gl, ins (ro x.2) x.1, e4, by rw [List.append_nil]; exact cv.go _ _ _ _ (Sg.mono e3 r) rr, .mk (Res.wp_mono (Res.wp_bind q) (fun y q v G3 H3 s r3 => q v G2 O2 H3 e2 (hs2.stp (Stp.grow hs2.gh s.hh)) ob2 (sc _ _ _ _ _ r3)) fun c fs z H' dd a b => z H' dd (hs2.fr.trans a) b)⟩) fun _ _ z => z)
theorem z_meth {S : Rps β} {t : TA} {i : Nat} {C : Addr} {mt : Str} {ma : δ → Res (β × δ)} {h : δ → β → Res (α × δ)} (hC : ObjM C Ob mt) (hv : σ[i]? = some (some v0)) (ha : EvSA K fm σ G La Lb Ob v0 t S ma) :
    EvS K fm σ G La Lb Ob v0 (tMeth C mt (spN K fm.cl Ob (fun v0 => rsV v0 S) R h) [] fm.E (tVar i) t) R (callS ma h) := fun d O G1 H1 e hs ob Q q => by
  obtain ⟨p, dx, fs, e0, hp, hl⟩ := hC _ _ _ _ ob
  refine ⟨v0, hv, p, dx, fs, e0, (hs.kn.own _ (List.mem_append_right _ (List.mem_append_left _ hp))), hl, ?_⟩
  exact ha d O G1 H1 e hs ob _ (Res.wp_mono (Res.wp_bind q) (fun x q vs G2 O2 H2 e2 hs2 ob2 r =>
    ⟨without O2 H2, G2, O2, x.2, v0, x.1, hs2.sub, ob2, by rw [List.append_nil]; exact ⟨vs, rfl, r⟩, .mk (Res.wp_mono q (fun y q v G3 O3 H3 hs3 ob3 r3 => q v G3 O3 H3 (e2.trans hs3.g0) (hs2.back2 hs3) ob3 r3) fun c fs z => xw_sub hs2 z)⟩) fun _ _ z => z)
/-- a method without arguments -/
theorem z_methR {Sg : Rps β} {Ro : Rp ε} {ro : δ → ε} {t : TA} {i : Nat} {C : Addr} {mt : Str} {ma : δ → Res (β × δ)} {h : ε × β → Res α} (obm : Obm Ob) (hC : ObjM C Ob mt) (L : Lends K Ob Ro ro) (sc : Sc R) (hv : σ[i]? = some (some v0)) (ha : EvSA K fm σ G La Lb Ob v0 t Sg ma) :
    EvS K fm σ G La Lb Ob v0 (tMeth C mt (spP K fm.cl (rsC Ro Sg) R h) [] fm.E (tVar i) t) R (readS ma fun d a => h (ro d, a)) := fun d O G1 H1 e hs ob Q q => by
  obtain ⟨p, dx, fs, e0, hp, hl⟩ := hC _ _ _ _ ob
  refine ⟨v0, hv, p, dx, fs, e0, (hs.kn.own _ (List.mem_append_right _ (List.mem_append_left _ hp))), hl, ?_⟩
  refine ha d O G1 H1 e hs ob _ (Res.wp_mono (Res.wp_bind q) (fun x q vs G2 O2 H2 e2 hs2 ob2 r => ?_) fun _ _ z => z)
  obtain ⟨Gl, e3, e4, rr⟩ := L fm x.2 v0 G2 O2 _ H2 hs2.kn (fun p hp => List.mem_append_right _ (List.mem_append_left _ hp)) ob2
  exact ⟨Gl, (ro x.2, x.1), e4, by rw [List.append_nil]; exact ⟨v0, vs, rfl, rr, Sg.mono e3 r⟩, .mk (Res.wp_mono (Res.wp_bind q) (fun y q v G3 H3 s r3 => q v G2 O2 H3 e2 (hs2.stp (Stp.grow hs2.gh s.hh)) ob2 (sc _ _ _ _ _ r3)) fun c fs z H' dd a b => z H' dd (hs2.fr.trans a) b)⟩
/-! operators over what writes -/
theorem z_op1 {Dv : V → TE} {h : α → Res γ} (obm : Obm Ob) (ha : EvS K fm σ G La Lb Ob v0 ta R f) (hp : ∀ v x G' O, Same G G' → R.r K G' v x → EvE K fm (Dv v) σ G' O T (h x)) (hC : ∀ H Q, (ta σ H fun v H1 => Dv v σ H1 Q) → te σ H Q) :
    EvS K fm σ G La Lb Ob v0 te T (mapS f h) := fun d O G1 H1 e hs ob Q q => hC _ _ <|
  ha d O G1 H1 e hs ob _ (Res.wp_mono (Res.wp_bind q) (fun x q v G2 O2 H2 e2 hs2 ob2 r =>
    hp v x.1 G2 _ (e.trans e2) r G2 H2 (Same.refl _) hs2.kn Q (Res.wp_mono (Res.wp_bind q) (fun y q v G3 H3 s r3 => q v G3 O2 H3 (e2.trans s.gg) (hs2.stp s) (obm _ _ _ _ _ s.gg ob2) r3) fun _ _ z => z)) fun _ _ z => z)
theorem z_op2 {Dv : V → V → TE} {h : α → β → Res γ} (obm : Obm Ob) (ha : EvS K fm σ G La Lb Ob v0 ta R f) (hb : EvS K fm σ G La Lb Ob v0 tb S g) (hp : ∀ v w x y G' O, Same G G' → R.r K G' v x → S.r K G' w y → EvE K fm (Dv v w) σ G' O T (h x y))
    (hC : ∀ H Q, (ta σ H fun v H1 => tb σ H1 fun w H2 => Dv v w σ H2 Q) → te σ H Q) : EvS K fm σ G La Lb Ob v0 te T (map2S f g h) := fun d O G1 H1 e hs ob Q q => hC _ _ <|
  ha d O G1 H1 e hs ob _ (Res.wp_mono (Res.wp_bind q) (fun x q v G2 O2 H2 e2 hs2 ob2 r =>
    hb x.2 O2 G2 H2 (e.trans e2) hs2 ob2 _ (Res.wp_mono (Res.wp_bind q) (fun y q w G3 O3 H3 e3 hs3 ob3 r' =>
      hp v w x.1 y.1 G3 _ ((e.trans e2).trans e3) (R.mono e3 r) r' G3 H3 (Same.refl _) hs3.kn Q (Res.wp_mono (Res.wp_bind q) (fun z q v G4 H4 s r3 => q v G4 O3 H4 ((e2.trans e3).trans s.gg) (hs3.stp s) (obm _ _ _ _ _ s.gg ob3) r3) fun _ _ z => z)) fun _ _ z => z)) fun _ _ z => z)
theorem z_ite {c : TT} {mc : δ → Res (Bool × δ)} {g : δ → Res (α × δ)} (hc : EvST fm σ G La Lb Ob v0 c mc) (ha : EvS K fm σ G La Lb Ob v0 ta R f) (hb : EvS K fm σ G La Lb Ob v0 tb R g) : EvS K fm σ G La Lb Ob v0 (tIf c ta tb) R (iteS mc f g) := fun d O G1 H1 e hs ob Q q =>
  hc d O G1 H1 e hs ob _ (Res.wp_mono (Res.wp_bind q) (fun x q G2 O2 H2 e2 hs2 ob2 => by
    obtain ⟨b, d2⟩ := x
    cases b with
    | true => exact ha d2 O2 G2 H2 (e.trans e2) hs2 ob2 Q (Res.wp_mono q (fun y q v G3 O3 H3 e3 => q v G3 O3 H3 (e2.trans e3)) fun _ _ z => z)
    | false => exact hb d2 O2 G2 H2 (e.trans e2) hs2 ob2 Q (Res.wp_mono q (fun y q v G3 O3 H3 e3 => q v G3 O3 H3 (e2.trans e3)) fun _ _ z => z)) fun _ _ z => z)
/-! tests -/
theorem zt_val {f : δ → Res (Bool × δ)} (h : EvS K fm σ G La Lb Ob v0 te rB f) : EvST fm σ G La Lb Ob v0 (tB te) f := fun d O G1 H1 e hs ob Q q =>
  h d O G1 H1 e hs ob _ (Res.wp_mono q (fun x q v G2 O2 H2 e2 hs2 ob2 r => ⟨x.1, r, q G2 O2 H2 e2 hs2 ob2⟩) fun _ _ z => z)
theorem zt_test {f : δ → Res (Bool × δ)} (h : EvS K fm σ G La Lb Ob v0 te rB f) : EvST fm σ G La Lb Ob v0 (tTest te) f := zt_val h
theorem zt_not {t : TT} {f : δ → Res (Bool × δ)} (h : EvST fm σ G La Lb Ob v0 t f) : EvST fm σ G La Lb Ob v0 (tNot t) (mapS f fun b => .ok (!b)) := fun d O G1 H1 e hs ob Q q =>
  h d O G1 H1 e hs ob _ (Res.wp_mono (Res.wp_bind q) (fun x q G2 O2 H2 e2 hs2 ob2 => q G2 O2 H2 e2 hs2 ob2) fun _ _ z => z)
theorem zt_and {t u : TT} {f g : δ → Res (Bool × δ)} (h : EvST fm σ G La Lb Ob v0 t f) (h' : EvST fm σ G La Lb Ob v0 u g) : EvST fm σ G La Lb Ob v0 (tAnd t u) (andS f g) := fun d O G1 H1 e hs ob Q q =>
  h d O G1 H1 e hs ob _ (Res.wp_mono (Res.wp_bind q) (fun x q G2 O2 H2 e2 hs2 ob2 => by
    obtain ⟨b, d2⟩ := x
    cases b with
    | true => exact h' d2 O2 G2 H2 (e.trans e2) hs2 ob2 Q (Res.wp_mono q (fun y q G3 O3 H3 e3 => q G3 O3 H3 (e2.trans e3)) fun _ _ z => z)
    | false => exact q G2 O2 H2 e2 hs2 ob2) fun _ _ z => z)
theorem zt_or {t u : TT} {f g : δ → Res (Bool × δ)} (h : EvST fm σ G La Lb Ob v0 t f) (h' : EvST fm σ G La Lb Ob v0 u g) : EvST fm σ G La Lb Ob v0 (tOr t u) (orS f g) := fun d O G1 H1 e hs ob Q q =>
  h d O G1 H1 e hs ob _ (Res.wp_mono (Res.wp_bind q) (fun x q G2 O2 H2 e2 hs2 ob2 => by
    obtain ⟨b, d2⟩ := x
    cases b with
    | false => exact h' d2 O2 G2 H2 (e.trans e2) hs2 ob2 Q (Res.wp_mono q (fun y q G3 O3 H3 e3 => q G3 O3 H3 (e2.trans e3)) fun _ _ z => z)
    | true => exact q G2 O2 H2 e2 hs2 ob2) fun _ _ z => z)
theorem z_and {f g : δ → Res (Bool × δ)} (h : EvS K fm σ G La Lb Ob v0 ta rB f) (h' : EvS K fm σ G La Lb Ob v0 tb rB g) : EvS K fm σ G La Lb Ob v0 (tAndV ta tb) rB (andS f g) := fun d O G1 H1 e hs ob Q q =>
  h d O G1 H1 e hs ob _ (Res.wp_mono (Res.wp_bind q) (fun x q v G2 O2 H2 e2 hs2 ob2 r => ⟨x.1, r, by
    obtain ⟨b, d2⟩ := x
    cases b with
    | true => exact h' d2 O2 G2 H2 (e.trans e2) hs2 ob2 Q (Res.wp_mono q (fun y q v G3 O3 H3 e3 => q v G3 O3 H3 (e2.trans e3)) fun _ _ z => z)
    | false => exact q _ G2 O2 H2 e2 hs2 ob2 rfl⟩) fun _ _ z => z)
theorem z_or {f g : δ → Res (Bool × δ)} (h : EvS K fm σ G La Lb Ob v0 ta rB f) (h' : EvS K fm σ G La Lb Ob v0 tb rB g) : EvS K fm σ G La Lb Ob v0 (tOrV ta tb) rB (orS f g) := fun d O G1 H1 e hs ob Q q =>
  h d O G1 H1 e hs ob _ (Res.wp_mono (Res.wp_bind q) (fun x q v G2 O2 H2 e2 hs2 ob2 r => ⟨x.1, r, by
    obtain ⟨b, d2⟩ := x
    cases b with
    | false => exact h' d2 O2 G2 H2 (e.trans e2) hs2 ob2 Q (Res.wp_mono q (fun y q v G3 O3 H3 e3 => q v G3 O3 H3 (e2.trans e3)) fun _ _ z => z)
    | true => exact q _ G2 O2 H2 e2 hs2 ob2 rfl⟩) fun _ _ z => z)
/-! what reads the object in a pure expression -/
theorem e_lendZ {Ro : Rp ε} {ro : δ → ε} (obm : Obm Ob) (L : Lends K Ob Ro ro) (sc : Sc R) (ob : Ob d v0 G O) (h : ∀ G', Same G G' → Ro.r K G' v0 (ro d) → EvE K fm te σ G' (La ++ (O ++ Lb)) R m) : EvE K fm te σ G (La ++ (O ++ Lb)) R m := fun G1 H1 e k Q q => by
  obtain ⟨Gl, e3, e4, rr⟩ := L fm d v0 G1 O _ H1 k (fun p hp => List.mem_append_right _ (List.mem_append_left _ hp)) (obm _ _ _ _ _ e ob)
  exact h Gl (e.trans e3) rr Gl H1 (Same.refl _) ⟨k.fr, e4, k.own⟩ Q (Res.wp_mono q (fun x q v G2 H2 s r => q v G1 H2 (Stp.grow k.gh s.hh) (sc _ _ _ _ _ r)) fun _ _ z => z)
theorem n_lendZ {Ro : Rp ε} {ro : δ → ε} {m : Res (List α)} (obm : Obm Ob) (L : Lends K Ob Ro ro) (sc : Sc R) (ob : Ob d v0 G O) (h : ∀ G', Same G G' → Ro.r K G' v0 (ro d) → EvN K fm te σ G' (La ++ (O ++ Lb)) R m) : EvN K fm te σ G (La ++ (O ++ Lb)) R m := fun G1 H1 e k Q q => by
  obtain ⟨Gl, e3, e4, rr⟩ := L fm d v0 G1 O _ H1 k (fun p hp => List.mem_append_right _ (List.mem_append_left _ hp)) (obm _ _ _ _ _ e ob)
  exact h Gl (e.trans e3) rr Gl H1 (Same.refl _) ⟨k.fr, e4, k.own⟩ Q (Res.wp_mono q (fun xs q p vs G2 H2 s hp gp hl r => q p vs G1 H2 (Stp.grow k.gh s.hh) hp (same_back k.gh hp) hl (Paired.mapP r fun _ _ z => sc _ _ _ _ _ z)) fun _ _ z => z)
theorem t_lendZ {Ro : Rp ε} {ro : δ → ε} {t : TT} {m : Res Bool} (obm : Obm Ob) (L : Lends K Ob Ro ro) (ob : Ob d v0 G O) (h : ∀ G', Same G G' → Ro.r K G' v0 (ro d) → EvT fm t σ G' (La ++ (O ++ Lb)) m) : EvT fm t σ G (La ++ (O ++ Lb)) m := fun G1 H1 e k Q q => by
  obtain ⟨Gl, e3, e4, rr⟩ := L fm d v0 G1 O _ H1 k (fun p hp => List.mem_append_right _ (List.mem_append_left _ hp)) (obm _ _ _ _ _ e ob)
  exact h Gl (e.trans e3) rr Gl H1 (Same.refl _) ⟨k.fr, e4, k.own⟩ Q (Res.wp_mono q (fun x q G2 H2 s => q G1 H2 (Stp.grow k.gh s.hh)) fun _ _ z => z)
/-! statements -/
theorem w_asgZ {g : TG} {Ss : Rps α} {is : List Nat} {mk : α × δ → Res ρ} (tg : Tgt K g R Ss is) (he : EvS K fm σ G La Lb Ob v0 te R f) (hs : Hs fm G (La ++ (O ++ Lb)) H) (ob : Ob d v0 G O) (hm : Wp ((f d).bind mk) Q fm.xw)
    (k : ∀ x vs G' O' H', Same G G' → Hs fm G' (La ++ (O' ++ Lb)) H' → Ob x.2 v0 G' O' → Ss.r K G' vs x.1 → Wp (mk x) Q fm.xw → tr D (setL σ is vs) H') : tSeq (tAsg te g) tr D σ H :=
  he d O G H (Same.refl _) hs ob _ (Res.wp_mono (Res.wp_bind hm.out) (fun x q v G2 O2 H2 e2 hs2 ob2 r => tg G2 H2 v x.1 σ _ hs2.gh r fun vs rv => k x vs G2 O2 H2 e2 hs2 ob2 rv (.mk q)) fun _ _ z => z)
theorem w_dropZ {mk : α × δ → Res ρ} (he : EvS K fm σ G La Lb Ob v0 te R f) (hs : Hs fm G (La ++ (O ++ Lb)) H) (ob : Ob d v0 G O) (hm : Wp ((f d).bind mk) Q fm.xw)
    (k : ∀ x G' O' H', Same G G' → Hs fm G' (La ++ (O' ++ Lb)) H' → Ob x.2 v0 G' O' → Wp (mk x) Q fm.xw → tr D σ H') : tSeq (tDrop te) tr D σ H :=
  he d O G H (Same.refl _) hs ob _ (Res.wp_mono (Res.wp_bind hm.out) (fun x q v G2 O2 H2 e2 hs2 ob2 r => k x G2 O2 H2 e2 hs2 ob2 (.mk q)) fun _ _ z => z)
theorem w_retZ {kr : α × δ → ρ} (he : EvS K fm σ G La Lb Ob v0 te R f) (hs : Hs fm G (La ++ (O ++ Lb)) H) (ob : Ob d v0 G O) (hm : Wp ((f d).bind fun r => .ok (kr r)) Q fm.xw)
    (k : ∀ x v G' O' H', Same G G' → Hs fm G' (La ++ (O' ++ Lb)) H' → Ob x.2 v0 G' O' → R.r K G' v x.1 → Q (kr x) → D.rt v H') : tSeq (tRet te) tr D σ H :=
  he d O G H (Same.refl _) hs ob _ (Res.wp_mono (Res.wp_bind hm.out) (fun x q v G2 O2 H2 e2 hs2 ob2 r => k x v G2 O2 H2 e2 hs2 ob2 r q) fun _ _ z => z)
theorem w_retZ0 {Q : α × δ → Prop} (he : EvS K fm σ G La Lb Ob v0 te R f) (hs : Hs fm G (La ++ (O ++ Lb)) H) (ob : Ob d v0 G O) (hm : Wp (f d) Q fm.xw)
    (k : ∀ x v G' O' H', Same G G' → Hs fm G' (La ++ (O' ++ Lb)) H' → Ob x.2 v0 G' O' → R.r K G' v x.1 → Q x → D.rt v H') : tSeq (tRet te) tr D σ H :=
  he d O G H (Same.refl _) hs ob _ (Res.wp_mono hm.out (fun x q v G2 O2 H2 e2 hs2 ob2 r => k x v G2 O2 H2 e2 hs2 ob2 r q) fun _ _ z => z)
theorem w_ifZ {c : TT} {mc : δ → Res (Bool × δ)} {a b : δ → Res ρ} (hc : EvST fm σ G La Lb Ob v0 c mc) (hs : Hs fm G (La ++ (O ++ Lb)) H) (ob : Ob d v0 G O) (hm : Wp ((mc d).bind fun x => if x.1 = true then a x.2 else b x.2) Q fm.xw)
    (h1 : ∀ d' G' O' H', Same G G' → Hs fm G' (La ++ (O' ++ Lb)) H' → Ob d' v0 G' O' → Wp (a d') Q fm.xw → tt { D with nx := tr D } σ H') (h2 : ∀ d' G' O' H', Same G G' → Hs fm G' (La ++ (O' ++ Lb)) H' → Ob d' v0 G' O' → Wp (b d') Q fm.xw → tu { D with nx := tr D } σ H') : tSeq (tIfS c tt tu) tr D σ H :=
  hc d O G H (Same.refl _) hs ob _ (Res.wp_mono (Res.wp_bind hm.out) (fun x q G2 O2 H2 e2 hs2 ob2 => by
    obtain ⟨k, d2⟩ := x
    cases k with
    | true => exact h1 d2 G2 O2 H2 e2 hs2 ob2 (.mk q)
    | false => exact h2 d2 G2 O2 H2 e2 hs2 ob2 (.mk q)) fun _ _ z => z)
end
end Mw

namespace Mw
open PySem PySem.Spec PyProof.Rows L2
/-! ### loops whose returns tell the object's state -/
structure ZEnds {S ρ : Type} (fm : Fm) (G : Hp) (W : S → L2.St → Hp → Own → Prop) (RT : ρ → V → Hp → Own → Prop) (Qb : Tn S ρ → Prop) (D : Ends) : Prop where
  nx : ∀ s σ G1 G2 O H, Same G G2 → W s σ G1 O → Same G1 G2 → Hs fm G2 O H → Qb (.nx s) → D.nx σ H
  ct : ∀ s σ G1 G2 O H, Same G G2 → W s σ G1 O → Same G1 G2 → Hs fm G2 O H → Qb (.nx s) → D.ct σ H
  bk : ∀ s σ G1 G2 O H, Same G G2 → W s σ G1 O → Same G1 G2 → Hs fm G2 O H → Qb (.bk s) → D.bk σ H
  rt : ∀ r v G2 O H, Hs fm G2 O H → RT r v G2 O → Qb (.rt r) → D.rt v H
section
variable {α β γ δ ρ : Type} {K : PySem.W.Frag} {fm : Fm} {σ : L2.St} {G G' H H' : Hp} {O : Own}
variable {te ta tb tc : TE} {R : Rp α} {S : Rp β} {T : Rp γ} {m : Res α} {n : Res β}
variable {D : Ends} {tr tt tu tw : TS} {Q : ρ → Prop}
theorem s_forBZ {Oi : Own} {S : Type} {Sr : Type} {ti : TI} {g : TG} {Ss : Rps α} {is : List Nat} {m : Res (List α)} {f : α → S → Res (Tn S Sr)} {mk : Lp S Sr → Res ρ} {s0 : S} (W : S → L2.St → Hp → Own → Prop) (RT : Sr → V → Hp → Own → Prop)
    (hi : EvI K fm ti σ G O Oi R m) (hO : ∀ s σ G O, W s σ G O → ∀ p ∈ Oi, p ∈ O) (tg : Tgt K g R Ss is) (hs : Hs fm G O H) (hm : ((m.bind fun xs => forB f xs s0).bind mk).wp Q fm.xw) (h0 : W s0 σ G O)
    (hb : ∀ x s σ' G1 G' O' H' vs (D' : Ends) (Qb : Tn S Sr → Prop), Same G G' → W s σ' G1 O' → Same G1 G' → Hs fm G' O' H' → Ss.r K G' vs x → ZEnds fm G' W RT Qb D' → (f x s).wp Qb fm.xw → tw D' (setL σ' is vs) H')
    (hn : ∀ s σ' G1 G' O' H', Same G G' → W s σ' G1 O' → Same G1 G' → Hs fm G' O' H' → (mk (.nx s)).wp Q fm.xw → tr D σ' H')
    (hr : ∀ r v G2 O2 H2, Hs fm G2 O2 H2 → RT r v G2 O2 → (mk (.rt r)).wp Q fm.xw → D.rt v H2) : tSeq (tFor ti g tw) tr D σ H := by
  refine hi G H (Same.refl _) hs.kn _ (Res.wp_mono (Res.wp_bind (Res.wp_bind hm)) (fun xs q J G2 H2 s it => ?_) fun _ _ z => z)
  refine ⟨fun i mm σ' H' => mm = xs.length - i ∧ i ≤ xs.length ∧ ∃ s' G1 G' O', Same G2 G' ∧ W s' σ' G1 O' ∧ Same G1 G' ∧ Hs fm G' O' H' ∧ ((forB f (xs.drop i) s').bind mk).wp Q fm.xw,
    ⟨xs.length, by simp, Nat.zero_le _, s0, G, G2, O, Same.refl _, h0, s.gg, hs.stp s, by
      rw [List.drop_zero]
      cases hx : forB f xs s0 with
      | ok a => rw [hx] at q; exact q
      | exc c fs => rw [hx] at q; exact q
      | stuck => rw [hx] at q; exact q⟩, ?_⟩
  rintro i mm σ' H' ⟨rfl, hle, s', G1, G', O', g2, w, g1, hs', q'⟩
  by_cases hlt : i < xs.length
  · refine .inr ⟨it.go i G' H' g2 hs'.gh (fun p hp => (hs'.own p (hO _ _ _ _ w p hp)).1) hlt, _, fun σ2 H2 z => ⟨xs.length - (i + 1), by omega, z⟩, fun v H3 y => ?_⟩
    obtain ⟨x, G4, hx, s4, rx⟩ := it.yld i G' H' v H3 g2 hs'.gh (fun p hp => (hs'.own p (hO _ _ _ _ w p hp)).1) hlt y
    have hdrop : xs.drop i = x :: xs.drop (i + 1) := by
      obtain ⟨h1, h2⟩ := List.getElem?_eq_some_iff.mp hx
      rw [List.drop_eq_getElem_cons h1, h2]
    rw [hdrop] at q'
    refine tg G4 H3 v x _ _ s4.gh rx fun vs rvs => ?_
    refine hb x s' σ' G1 G4 O' H3 vs _ (fun t => ((match t with | .nx s' => forB f (xs.drop (i + 1)) s' | .bk s' => .ok (.nx s') | .rt r => .ok (.rt r)).bind mk).wp Q fm.xw) ((s.gg.trans g2).trans s4.gg) w (g1.trans s4.gg) (hs'.stp s4) rvs ⟨?_, ?_, ?_, ?_⟩ (Res.wp_bind (by
      have := q'
      rw [forB] at this
      cases hx : f x s' with
      | ok a => rw [hx] at this; exact this
      | exc c fs => rw [hx] at this; exact this
      | stuck => rw [hx] at this; exact this))
    · exact fun s5 σ5 G5 G6 O5 H5 a b c d e => ⟨rfl, hlt, s5, G5, G6, O5, (g2.trans s4.gg).trans a, b, c, d, e⟩
    · exact fun s5 σ5 G5 G6 O5 H5 a b c d e => ⟨rfl, hlt, s5, G5, G6, O5, (g2.trans s4.gg).trans a, b, c, d, e⟩
    · exact fun s5 σ5 G5 G6 O5 H5 a b c d e => hn s5 σ5 G5 G6 O5 H5 (((s.gg.trans g2).trans s4.gg).trans a) b c d e
    · exact fun r v G5 O5 H5 a b c => hr r v G5 O5 H5 a b c
  · have ei : i = xs.length := by omega
    subst ei
    rw [List.drop_length] at q'
    exact .inl ⟨it.stop G' H' g2 hs'.gh (fun p hp => (hs'.own p (hO _ _ _ _ w p hp)).1), hn s' σ' G1 G' O' H' (s.gg.trans g2) w g1 hs' q'⟩
theorem s_whBZ {S : Type} {Sr : Type} {c : TT} {mc : S → Res Bool} {f : S → Res (Tn S Sr)} {mk : Lp S Sr → Res ρ} {s0 : S} {fuel : Nat} (W : S → L2.St → Hp → Own → Prop) (RT : Sr → V → Hp → Own → Prop)
    (hs : Hs fm G O H) (hm : ((whB mc f fuel s0).bind mk).wp Q fm.xw) (h0 : W s0 σ G O)
    (hc : ∀ s σ' G1 G' O', Same G G' → W s σ' G1 O' → Same G1 G' → EvT fm c σ' G' O' (mc s))
    (hb : ∀ s σ' G1 G' O' H' (D' : Ends) (Qb : Tn S Sr → Prop), Same G G' → W s σ' G1 O' → Same G1 G' → Hs fm G' O' H' → ZEnds fm G' W RT Qb D' → (f s).wp Qb fm.xw → tw D' σ' H')
    (hn : ∀ s σ' G1 G' O' H', Same G G' → W s σ' G1 O' → Same G1 G' → Hs fm G' O' H' → (mk (.nx s)).wp Q fm.xw → tr D σ' H')
    (hr : ∀ r v G2 O2 H2, Hs fm G2 O2 H2 → RT r v G2 O2 → (mk (.rt r)).wp Q fm.xw → D.rt v H2) : tSeq (tWhile c tw) tr D σ H := by
  refine ⟨fun mm σ' H' => ∃ s' G1 G' O', Same G G' ∧ W s' σ' G1 O' ∧ Same G1 G' ∧ Hs fm G' O' H' ∧ ((whB mc f mm s').bind mk).wp Q fm.xw, ⟨fuel, s0, G, G, O, Same.refl _, h0, Same.refl _, hs, hm⟩, ?_⟩
  rintro mm σ' H' ⟨s', G1, G', O', g, w, g1, hs', q'⟩
  cases mm with
  | zero => exact q'.elim
  | succ mm =>
    have q1 : (mc s').wp (fun b => ((if b = true then (f s').bind fun t => match t with | .nx s' => whB mc f mm s' | .bk s' => .ok (.nx s') | .rt r => .ok (.rt r) else .ok (.nx s')).bind mk).wp Q fm.xw) fm.xw := by
      rw [whB] at q'
      cases hx : mc s' with
      | ok a => rw [hx] at q'; exact q'
      | exc c fs => rw [hx] at q'; exact q'
      | stuck => rw [hx] at q'; exact q'
    refine hc s' σ' G1 G' O' g w g1 G' H' (Same.refl _) hs'.kn _ (Res.wp_mono q1 (fun b q2 G2 H2 s2 => ?_) fun _ _ z => z)
    cases b with
    | true =>
      refine iteT ⟨_, fun σ2 H2 z => ⟨mm, Nat.lt_succ_self _, z⟩, ?_⟩
      rw [if_pos rfl] at q2
      refine hb s' σ' G1 G2 O' H2 _ (fun t => ((match t with | .nx s' => whB mc f mm s' | .bk s' => .ok (.nx s') | .rt r => .ok (.rt r)).bind mk).wp Q fm.xw) (g.trans s2.gg) w (g1.trans s2.gg) (hs'.stp s2) ⟨?_, ?_, ?_, ?_⟩ (Res.wp_bind (by
        cases hx : f s' with
        | ok a => rw [hx] at q2; exact q2
        | exc c fs => rw [hx] at q2; exact q2
        | stuck => rw [hx] at q2; exact q2))
      · exact fun s5 σ5 G5 G6 O5 H5 a b c d e => ⟨s5, G5, G6, O5, (g.trans s2.gg).trans a, b, c, d, e⟩
      · exact fun s5 σ5 G5 G6 O5 H5 a b c d e => ⟨s5, G5, G6, O5, (g.trans s2.gg).trans a, b, c, d, e⟩
      · exact fun s5 σ5 G5 G6 O5 H5 a b c d e => hn s5 σ5 G5 G6 O5 H5 ((g.trans s2.gg).trans a) b c d e
      · exact fun r v G5 O5 H5 a b c => hr r v G5 O5 H5 a b c
    | false =>
      refine iteF ?_
      rw [if_neg Bool.false_ne_true] at q2
      exact hn s' σ' G1 G2 O' H2 (g.trans s2.gg) w (g1.trans s2.gg) (hs'.stp s2) q2
theorem w_forBZ {Oi : Own} {S : Type} {Sr : Type} {ti : TI} {g : TG} {Ss : Rps α} {is : List Nat} {m : Res (List α)} {f : α → S → Res (Tn S Sr)} {N : S → Res ρ} {Rt : Sr → Res ρ} {s0 : S} (W : S → L2.St → Hp → Own → Prop) (RT : Sr → V → Hp → Own → Prop)
    (hi : EvI K fm ti σ G O Oi R m) (hO : ∀ s σ G O, W s σ G O → ∀ p ∈ Oi, p ∈ O) (tg : Tgt K g R Ss is) (hs : Hs fm G O H) (hm : Wp ((m.bind fun xs => forB f xs s0).bind (Lp.el N Rt)) Q fm.xw) (h0 : W s0 σ G O)
    (hr : ∀ r v G2 O2 H2, Hs fm G2 O2 H2 → RT r v G2 O2 → (Rt r).wp Q fm.xw → D.rt v H2)
    (hb : ∀ x s σ' G1 G' O' H' vs (D' : Ends) (Qb : Tn S Sr → Prop), Same G G' → W s σ' G1 O' → Same G1 G' → Hs fm G' O' H' → Ss.r K G' vs x → ZEnds fm G' W RT Qb D' → Wp (f x s) Qb fm.xw → tw D' (setL σ' is vs) H')
    (hn : ∀ s σ' G1 G' O' H', Same G G' → W s σ' G1 O' → Same G1 G' → Hs fm G' O' H' → Wp (N s) Q fm.xw → tr D σ' H') : tSeq (tFor ti g tw) tr D σ H :=
  s_forBZ W RT hi hO tg hs hm.out h0 (fun x s σ' G1 G' O' H' vs D' Qb a b c d e f g => hb x s σ' G1 G' O' H' vs D' Qb a b c d e f (.mk g)) (fun s σ' G1 G' O' H' a b c d e => hn s σ' G1 G' O' H' a b c d (.mk e)) hr
theorem w_whBZ {S : Type} {Sr : Type} {c : TT} {mc : S → Res Bool} {f : S → Res (Tn S Sr)} {N : S → Res ρ} {Rt : Sr → Res ρ} {s0 : S} {fuel : Nat} (W : S → L2.St → Hp → Own → Prop) (RT : Sr → V → Hp → Own → Prop)
    (hs : Hs fm G O H) (hm : Wp ((whB mc f fuel s0).bind (Lp.el N Rt)) Q fm.xw) (h0 : W s0 σ G O)
    (hr : ∀ r v G2 O2 H2, Hs fm G2 O2 H2 → RT r v G2 O2 → (Rt r).wp Q fm.xw → D.rt v H2)
    (hc : ∀ s σ' G1 G' O', Same G G' → W s σ' G1 O' → Same G1 G' → EvT fm c σ' G' O' (mc s))
    (hb : ∀ s σ' G1 G' O' H' (D' : Ends) (Qb : Tn S Sr → Prop), Same G G' → W s σ' G1 O' → Same G1 G' → Hs fm G' O' H' → ZEnds fm G' W RT Qb D' → Wp (f s) Qb fm.xw → tw D' σ' H')
    (hn : ∀ s σ' G1 G' O' H', Same G G' → W s σ' G1 O' → Same G1 G' → Hs fm G' O' H' → Wp (N s) Q fm.xw → tr D σ' H') : tSeq (tWhile c tw) tr D σ H :=
  s_whBZ W RT hs hm.out h0 hc (fun s σ' G1 G' O' H' D' Qb a b c d e f => hb s σ' G1 G' O' H' D' Qb a b c d e (.mk f)) (fun s σ' G1 G' O' H' a b c d e => hn s σ' G1 G' O' H' a b c d (.mk e)) hr
end
end Mw

namespace Mw
open PySem PySem.Spec PyProof.Rows L2
section
variable {α β γ δ ρ : Type} {K : PySem.W.Frag} {fm : Fm} {σ : L2.St} {G G' H H' : Hp} {O : Own} {te tb : TE} {R : Rp α} {m : Res α} {D : Ends} {tr : TS} {Q : ρ → Prop}
/-! ### fields written -/
theorem w_fldV (j : Nat) {p C dx : Addr} {fs : List (Str × V)} {f : Str} {mk : α → Res ρ} (hx : EvV fm tb σ G O (.ref p)) (hj : O[j]? = some (p, .ins C dx fs)) (c : Cls K C) (na : NoAttr K C f) (hn : fs.length < 1000) (he : EvE K fm te σ G O R m) (hs : Hs fm G O H) (hm : Wp (m.bind mk) Q fm.xw)
    (k : ∀ x v G' H', Same G G' → Hs fm G' (O.set j (p, .ins C dx (putF f v fs))) H' → R.r K G' v x → Wp (mk x) Q fm.xw → tr D σ H') : tSeq (sFld K tb te f) tr D σ H :=
  he G H (Same.refl _) hs.kn _ (Res.wp_mono (Res.wp_bind hm.out) (fun x q v G2 H2 s r => hx G2 H2 s.gg (hs.stp s).kn _ ⟨p, C, dx, fs, rfl, ((hs.stp s).at j hj).1, c, na, hn, k x v G2 _ s.gg ((hs.stp s).set j hj) r (.mk q)⟩) fun _ _ z => z)
theorem w_fldN (j : Nat) {p C dx : Addr} {fs : List (Str × V)} {f : Str} {m : Res (List α)} {mk : List α → Res ρ} (hx : EvV fm tb σ G O (.ref p)) (hj : O[j]? = some (p, .ins C dx fs)) (c : Cls K C) (na : NoAttr K C f) (hn : fs.length < 1000) (he : EvN K fm te σ G O R m) (hs : Hs fm G O H) (hm : Wp (m.bind mk) Q fm.xw)
    (k : ∀ xs l vs G' H', Same G G' → Hs fm G' ((l, .lst vs) :: O.set j (p, .ins C dx (putF f (.ref l) fs))) H' → RLs R K G' vs xs → Wp (mk xs) Q fm.xw → tr D σ H') : tSeq (sFld K tb te f) tr D σ H :=
  he G H (Same.refl _) hs.kn _ (Res.wp_mono (Res.wp_bind hm.out) (fun xs q l vs G2 H2 s hp gp hl r => hx G2 H2 s.gg (hs.stp s).kn _ ⟨p, C, dx, fs, rfl, ((hs.stp s).at j hj).1, c, na, hn, k xs l vs G2 _ s.gg ((hs.new s hp gp hl).set (j + 1) (a := p) (o := .ins C dx fs) (by rw [List.getElem?_cons_succ]; exact hj)) r (.mk q)⟩) fun _ _ z => z)
theorem w_fldT (j : Nat) {p C dx : Addr} {fs : List (Str × V)} {f : Str} {mm : Res ρ} (hx : EvV fm tb σ G O (.ref p)) (hj : O[j]? = some (p, .ins C dx fs)) (c : Cls K C) (na : NoAttr K C f) (hn : fs.length < 1000) (hs : Hs fm G O H) (hm : Wp mm Q fm.xw)
    (k : ∀ l H', Hs fm G ((l, .dT []) :: O.set j (p, .ins C dx (putF f (.ref l) fs))) H' → Wp mm Q fm.xw → tr D σ H') : tSeq (sFld K tb tDNewT f) tr D σ H := fun l hl =>
  have s : Stp G H G (upd H l (.dT [])) := Stp.grow hs.gh (same_new hl)
  hx G _ (Same.refl _) (hs.stp s).kn _ ⟨p, C, dx, fs, rfl, ((hs.stp s).at j hj).1, c, na, hn, k l _ ((hs.new s hl (same_back hs.gh hl) upd_same).set (j + 1) (a := p) (o := .ins C dx fs) (by rw [List.getElem?_cons_succ]; exact hj)) hm⟩
/-! ### objects made -/
theorem a_nil : EvA K fm tNil σ G O rs0 (.ok ()) := fun G1 H1 e k Q q => q [] G1 H1 (Stp.refl k.gh) rfl
/-- what an `__init__` promises -/
def spI {α δ : Type} (K : PySem.W.Frag) (cl : Nat → Addr) (C : Addr) (Ob : δ → V → Hp → Own → Prop) (S : Rps α) (f : α → Res δ) : Sp := fun vs H Q E => ∃ F G p dx rest a, vs = .ref p :: rest ∧ Hs ⟨F, G, E, cl⟩ G [(p, .ins C dx [])] H ∧ S.r K G rest a ∧
  Wp (f a) (fun d => ∀ G' O' H', Hs ⟨F, G, E, cl⟩ G' O' H' → Ob d (.ref p) G' O' → Q .non H') (Fm.xw ⟨F, G, E, cl⟩)
/-- x = C(..) -/
theorem w_mkZ {i : Nat} {C : Addr} {Ob : δ → V → Hp → Own → Prop} {S : Rps β} {t : TA} {f : β → Res δ} {m : Res β} {mk : δ → Res ρ} (he : EvA K fm t σ G O S m) (hs : Hs fm G O H) (hm : Wp ((m.bind f).bind mk) Q fm.xw)
    (k : ∀ d v G' O' H', Same G G' → Hs fm G' (O ++ (O' ++ [])) H' → Ob d v G' O' → Wp (mk d) Q fm.xw → tr D (σ.set i (some v)) H') : tSeq (tAsg (tMake C (spI K fm.cl C Ob S f) [] fm.E t) (gName i)) tr D σ H :=
  he G H (Same.refl _) hs.kn _ (Res.wp_mono (Res.wp_bind (Res.wp_bind hm.out)) (fun c q vs G2 H2 s r => by
    intro x dx hx hdx hne
    have hs2 := hs.stp s
    have s1 := Stp.new (o := HO.own x) s.gh hdx
    have hs3 := hs2.stp s1
    have hx3 : upd H2 dx (HO.own x) x = none := by rw [upd_ne (fun e => hne e.symm)]; exact hx
    have hs4 := hs3.new (p := x) (o := .ins C dx []) (Stp.grow hs3.gh (same_new hx3)) hx3 (same_back hs3.gh hx3) upd_same
    have hs5 : Hs fm (upd G2 dx (.own x)) ([] ++ ([(x, .ins C dx [])] ++ O)) _ := hs4
    refine ⟨_, _, x, dx, vs, c, by rw [List.append_nil], hs5.sub, S.mono s1.gg r, .mk (Res.wp_mono (m := f c) q (fun d q G' O' H' h ob => ⟨rfl, ?_⟩) fun c fs z => xw_sub hs5 z)⟩
    exact k d _ G' O' H' ((s.gg.trans s1.gg).trans h.g0) ((hs5.back2 h).perm (by rw [List.append_nil, List.nil_append]; exact List.perm_append_comm)) ob (.mk q)) fun _ _ z => z)
/-- an object handed on as it stands, to be read alone from here on -/
theorem lnV {α : Type} {v0 : V} {S : Rps α} {n : Nat} (h : Ln S n) : Ln (rsV v0 S) (n + 1) := fun K G vs a ⟨r, e, t⟩ => by rw [e, List.length_cons, h K G r a t]
theorem ln0 : Ln rs0 0 := fun K G vs a e => by rw [show vs = [] from e]; rfl
end
end Mw

namespace Mw
open PySem PySem.Spec PyProof.Rows L2
/-! ### zip of two sequences, each a list or a tuple (true: tuple) -/
def SqB (t : Bool) (K : PySem.W.Frag) (H : Hp) (a : Addr) (xs : List V) : Prop := match t with | true => SqT K H a xs | false => SqL K H a xs
def HsB (t : Bool) (h : Heap) (a : Addr) (its : Array Value) : Prop := match t with | true => h.IsTuple a its | false => h.IsList a its
def ItB (t : Bool) (h : Heap) (it a : Addr) (i : Nat) : Prop := match t with | true => h.IsTupleIter it a i | false => h.IsListIter it a i
def obB (t : Bool) (a : Addr) : Obj := match t with | true => { cls := .type "tuple_iterator", data := .fields #[.ref a, .int 0 0] } | false => { cls := .type "list_iterator", data := .fields #[.ref a, .int 0 0] }
theorem same_b {t : Bool} {K : PySem.W.Frag} {H H' : Hp} {a : Addr} {xs : List V} (e : Same H H') (h : SqB t K H a xs) : SqB t K H' a xs := by
  cases t
  · exact same_l e h
  · exact same_t e h
theorem invB {X : Cx} {pins : List (Addr × Obj)} {σ : L2.St} {H : Hp} {s : Shared} (I : Inv X pins σ H s) {t : Bool} {a : Addr} {xs : List V} (h : SqB t X.K H a xs) :
    ∃ its : List Value, Vals xs its ∧ HsB t s.heap a its.toArray ∧ a < s.heap.objs.size := by
  cases t
  · obtain ⟨its, rv, p, _⟩ := I.list h
    exact ⟨its, rv, p.isList, p.lt⟩
  · obtain ⟨its, rv, p, _⟩ := I.tuple h
    obtain ⟨o, ho, _⟩ := id p
    exact ⟨its, rv, p, Heap.lt_size ho⟩
theorem injB {X : Cx} {pins : List (Addr × Obj)} {σ : L2.St} {H : Hp} {s : Shared} (I : Inv X pins σ H s) {t : Bool} {a : Addr} {xs ys : List V} (h : SqB t X.K H a xs) (h' : SqB t X.K H a ys) : xs = ys := by
  cases t
  · exact I.list_inj h h'
  · exact I.tuple_inj h h'
theorem drawsB {prog : Program} {w : World} {A : Around} (hh : A.handled = none) (t : Bool) (it l : Addr) (hne : l ≠ it) (items : Array Value) :
    Draws prog w A it [it, l] items.size (fun i v => items[i]? = some v) (fun i h => ItB t h it l i ∧ HsB t h l items) := by
  cases t
  · exact Draws.list hh it l hne items
  · exact Draws.tuple hh it l hne items
theorem beginsB (t : Bool) (l : Addr) (items : Array Value) : Begins (.ref l) (obB t l) fun h => HsB t h l items := by
  cases t
  · exact begins_list l items
  · exact begins_tuple l items
theorem itB_obj {t : Bool} {h : Heap} {it a : Addr} {i : Nat} (x : ItB t h it a i) : ∃ o, h.get? it = some o ∧ ∀ v, o.data ≠ .cell v := by
  cases t <;> (obtain ⟨o, e, _, d⟩ := x; exact ⟨o, e, fun v q => by rw [d] at q; cases q⟩)
theorem itB_at {t : Bool} {h h' : Heap} {it a : Addr} {i : Nat} (x : ItB t h it a i) (k : ∀ o, h.get? it = some o → h'.get? it = some o) : ItB t h' it a i := by
  cases t
  · exact Heap.IsListIter.at x k
  · exact Heap.IsTupleIter.at x k
theorem itB_new {t : Bool} {h : Heap} {it a : Addr} (e : h.get? it = some (obB t a)) : ItB t h it a 0 := by
  cases t
  · exact ⟨_, e, rfl, rfl⟩
  · exact ⟨_, e, rfl, rfl⟩
def ItzB (s t : Bool) (K : PySem.W.Frag) (a b : Addr) : It :=
  ⟨fun i H => ∃ (xs ys : List V) (x y : V), SqB s K H a xs ∧ SqB t K H b ys ∧ xs[i]? = some x ∧ ys[i]? = some y,
    fun i H v H' => ∃ T x y, v = .ref T ∧ H T = none ∧ H' = upd H T (.tup [x, y]) ∧ (∀ xs, SqB s K H a xs → xs[i]? = some x) ∧ ∀ ys, SqB t K H b ys → ys[i]? = some y,
    fun i H => ∃ xs ys : List V, SqB s K H a xs ∧ SqB t K H b ys ∧ i ≤ xs.length ∧ i ≤ ys.length ∧ (i = xs.length ∨ i = ys.length)⟩
theorem turn_zipB {P : Program} {w : World} {K : PySem.W.Frag} {elts : List Expr} {kk : Nat} {tpos : Pos} {u t : Bool} {a b z TI TO i1 i2 : Addr} (D : ZipApart z TI TO i1 i2 a b) (S : ZipSep2 z TI TO i1 i2 [i1, a] [i2, b]) (ha : a ≠ i1) (hb : b ≠ i2) :
    Turn P w K (.Tuple elts kk tpos) (ItzB u t K a b) [z, TI, TO, i1, i2] z (fun i h => IsZip h z TI TO .none ∧ IsTupOf2 h TI (.ref i1) (.ref i2) ∧ (∃ x y, IsTupOf2 h TO x y) ∧ ItB u h i1 a i ∧ ItB t h i2 b i) where
  mem := by simp
  obj := fun i h st c hc => by
    obtain ⟨hz, hTI, ⟨x, y, hTO⟩, h1, h2⟩ := st
    have e' : c = z ∨ c = TI ∨ c = TO ∨ c = i1 ∨ c = i2 := by simpa using hc
    rcases e' with q | q | q | q | q
    · rw [q]; exact ⟨_, hz, fun v q => nomatch q⟩
    · rw [q]; exact ⟨_, hTI, fun v q => nomatch q⟩
    · rw [q]; exact ⟨_, hTO, fun v q => nomatch q⟩
    · rw [q]; exact itB_obj h1
    · rw [q]; exact itB_obj h2
  keep := fun i h h' st k => by
    obtain ⟨hz, hTI, ⟨x, y, hTO⟩, h1, h2⟩ := st
    exact ⟨k z (by simp) _ hz, k TI (by simp) _ hTI, ⟨x, y, k TO (by simp) _ hTO⟩, itB_at h1 fun o q => k i1 (by simp) o q, itB_at h2 fun o q => k i2 (by simp) o q⟩
  item := by
    intro X hP hw hK hc i pins s σ H E I hf st hg
    subst hP hw hK
    obtain ⟨hz, hTI, ⟨x0, y0, hTO⟩, h1, h2⟩ := st
    obtain ⟨xs, ys, x, y, hqx, hqy, hx, hy⟩ := hg
    obtain ⟨its, rv, p, _⟩ := invB I hqx
    obtain ⟨its2, rv2, p2, _⟩ := invB I hqy
    obtain ⟨c, hu, ru⟩ := rv.get hx
    obtain ⟨c2, hu2, ru2⟩ := rv2.get hy
    have hl1 : i < its.toArray.size := by simpa using (List.getElem?_eq_some_iff.mp hu).1
    have hl2 : i < its2.toArray.size := by simpa using (List.getElem?_eq_some_iff.mp hu2).1
    have hzl : z < s.heap.objs.size := Heap.lt_size hz
    refine wpAny_pyNext_zipD2_item S (drawsB (prog := X.prog) (w := X.w) (A := X.A.in1) (show X.A.in1.handled = none from I.ok.hd hc) u i1 a ha its.toArray) (drawsB (show X.A.in1.handled = none from I.ok.hd hc) t i2 b hb its2.toArray) hz hTI hTO ⟨h1, p⟩ ⟨h2, p2⟩ hl1 hl2 fun x1 x2 h' tk hp1 hp2 z' TO' s1' s2' hT hsz hk => ?_
    have e1 : x1 = c := by
      have : its.toArray[i]? = some c := by simpa using hu
      rw [this] at hp1
      exact (Option.some.inj hp1).symm
    have e2 : x2 = c2 := by
      have : its2.toArray[i]? = some c2 := by simpa using hu2
      rw [this] at hp2
      exact (Option.some.inj hp2).symm
    subst e1 e2
    refine ⟨_, rfl, wpAny_letOwnedTupleGo_zip (s := { s with heap := h', toks := tk }) z' fun h'' z'' sb => ?_⟩
    have hT2 : h''.get? s.heap.objs.size = some { cls := .type "tuple", data := .seq #[x1, x2] } := (sb.2 _ (Nat.ne_of_gt hzl)).trans hT
    have new : ObjOk X.prog X.w (upd H s.heap.objs.size (.tup [x, y])) h'' s.heap.objs.size (.tup [x, y]) :=
      ⟨by show 2 ≤ sizeLine; decide, [x1, x2], .cons ru (.cons ru2 .nil), ⟨_, hT2, rfl, _, rfl⟩⟩
    have I1 : Inv X pins σ (upd H s.heap.objs.size (.tup [x, y])) { s with heap := h'', toks := tk } :=
      I.turnedNew (t' := tk) (ch := [z, TI, TO, i1, i2]) (fun c o hb q => (sb.2 c (fun q' => hb (by simp [q']))).trans (hk c o (fun q' => hb (by simp [q'])) (fun q' => hb (by simp [q'])) (fun q' => hb (by simp [q'])) (fun q' => hb (by simp [q'])) q)) hf (Nat.le_refl _) new
    refine ⟨.ref s.heap.objs.size, _, I1, rfl, ⟨_, x, y, rfl, I.hok.fresh (Nat.le_refl _), rfl, fun l hl => by rw [injB I hl hqx]; exact hx, fun l hl => by rw [injB I hl hqy]; exact hy⟩, ⟨z'', ?_, ⟨x1, x2, ?_⟩, ?_, ?_⟩, fun c hcm => ?_⟩
    · exact (sb.2 _ D.TIz).trans (hk _ _ D.TIz D.TITO D.TIi1 D.TIi2 hTI)
    · exact (sb.2 _ D.TOz).trans TO'
    · exact itB_at s1'.1 fun o q => (sb.2 _ D.i1z).trans q
    · exact itB_at s2'.1 fun o q => (sb.2 _ D.i2z).trans q
    · have hlt : c < s.heap.objs.size := by
        have e' : c = z ∨ c = TI ∨ c = TO ∨ c = i1 ∨ c = i2 := by simpa using hcm
        rcases e' with q | q | q | q | q
        · rw [q]; exact hzl
        · rw [q]; exact Heap.lt_size hTI
        · rw [q]; exact Heap.lt_size hTO
        · rw [q]; obtain ⟨_, e1, _⟩ := itB_obj h1; exact Heap.lt_size e1
        · rw [q]; obtain ⟨_, e2, _⟩ := itB_obj h2; exact Heap.lt_size e2
      rw [upd_ne (Nat.ne_of_lt hlt)]
      exact (hf c hcm).1
  done := by
    intro X hP hw hK hc i pins s σ H E I hf st hg
    subst hP hw hK
    obtain ⟨hz, hTI, ⟨x0, y0, hTO⟩, h1, h2⟩ := st
    obtain ⟨xs, ys, hqx, hqy, hle1, hle2, hend⟩ := hg
    obtain ⟨its, rv, p, _⟩ := invB I hqx
    obtain ⟨its2, rv2, p2, _⟩ := invB I hqy
    have l1 : xs.length = its.length := rv.length
    have l2 : ys.length = its2.length := rv2.length
    exact wpAny_pyNext_zipD2_end S (drawsB (prog := X.prog) (w := X.w) (A := X.A.in1) (show X.A.in1.handled = none from I.ok.hd hc) u i1 a ha its.toArray) (drawsB (show X.A.in1.handled = none from I.ok.hd hc) t i2 b hb its2.toArray) hz hTI hTO ⟨h1, p⟩ ⟨h2, p2⟩ (by simpa [← l1] using hle1) (by simpa [← l2] using hle2) (by simpa [← l1, ← l2] using hend) fun h' tk hk => ⟨rfl, I.turnedL (t' := tk) (ch := [z, TI, TO, i1, i2]) (fun c o hb q =>
      hk c o (fun q' => hb (by simp [q'])) (fun q' => hb (by simp [q'])) (fun q' => hb (by simp [q'])) (fun q' => hb (by simp [q'])) q) hf⟩
  self := fun A i s Q E st h => wpAny_pyIter_zip st.1 h
def iZipB (s t : Bool) (K : PySem.W.Frag) (ta : TA) : TI := fun σ H R => ta σ H fun vs H1 => ∃ a b xs ys, vs = [.ref a, .ref b] ∧ SqB s K H1 a xs ∧ SqB t K H1 b ys ∧ R (ItzB s t K a b) H1
theorem pi_zipB (u t : Bool) {X : Cx} {e e2 : Expr} {ta : TA} {p pos tpos : Pos} {elts : List Expr} {kk : Nat} (hg : Gl X "zip") (hm : X.mg "zip" = none) (ha : PA X [e, e2] ta)
    (hs : starEach [e, e2] X.env = (false, eval e X.env) :: starEach [e2] X.env := by rfl) (hpl : (backTo pos (starEach [e2] X.env)).any (·.1) = false := by rfl) :
    PI X (.Tuple elts kk tpos) (.Call (.Name "zip" p) [e, e2] [] pos) (iZipB u t X.K ta) := by
  refine ⟨fun pins s σ H R I h => ?_⟩
  refine Call_ (ld_blt I hg hm PyProof.Rows.boot_zip (PyProof.Rows.callWith_type1 (thn (ha.run pos pins s σ H _ I h) fun us s1 ⟨vs, H1, I1, r1, q1⟩ => ?_) hs hpl))
  obtain ⟨a, b, xs, ys, ex, hqx, hqy, q⟩ := q1
  subst ex
  cases r1 with
  | cons r rr =>
    cases rr with
    | cons r' rr =>
      cases rr
      cases r
      cases r'
      have fresh5 : ∀ c, c ∈ [s1.heap.objs.size + 4, s1.heap.objs.size + 2, s1.heap.objs.size + 3, s1.heap.objs.size, s1.heap.objs.size + 1] → FpOk X pins H1 c := fun c hcm => by
        have e' : c = s1.heap.objs.size + 4 ∨ c = s1.heap.objs.size + 2 ∨ c = s1.heap.objs.size + 3 ∨ c = s1.heap.objs.size ∨ c = s1.heap.objs.size + 1 := by simpa using hcm
        have hle : s1.heap.objs.size ≤ c := by
          rcases e' with z | z | z | z | z
          · rw [z]; exact Nat.le_add_right _ _
          · rw [z]; exact Nat.le_add_right _ _
          · rw [z]; exact Nat.le_add_right _ _
          · rw [z]; exact Nat.le_refl _
          · rw [z]; exact Nat.le_add_right _ _
        exact I1.fpOk hle (I1.hok.fresh hle)
      obtain ⟨its, rv, p1, lt1⟩ := invB I1 hqx
      obtain ⟨its2, rv2, p2, lt2⟩ := invB I1 hqy
      refine zip_begins2 (beginsB u a its.toArray) (beginsB t b its2.toArray) p1 p2 fun h' hz hTI hTO h1 h2 hsz hk => wpAny_pyIter_zip hz ?_
      have I2 : Inv X pins σ H1 { s1 with heap := h' } := I1.kept (t' := s1.toks) hk
      have S := zip_sep2 (N := s1.heap.objs.size) (fp1 := [a]) (fp2 := [b]) (fun c hc => by rw [List.mem_singleton.mp hc]; exact lt1) (fun c hc => by rw [List.mem_singleton.mp hc]; exact lt2)
      refine ⟨s1.heap.objs.size + 4, [s1.heap.objs.size + 4, s1.heap.objs.size + 2, s1.heap.objs.size + 3, s1.heap.objs.size, s1.heap.objs.size + 1], _, _, H1, rfl, I2, turn_zipB (PySem.W.ktu_apart s1.heap.objs.size a b lt1 lt2) S (Nat.ne_of_lt lt1) (Nat.ne_of_lt (Nat.lt_succ_of_lt lt2)), ⟨hz, hTI, ⟨_, _, hTO⟩, itB_new h1, itB_new h2⟩, fresh5, q⟩
def zipL {α β : Type} (xs : List α) (ys : List β) : List (α × β) := xs.zip ys
def zipM {α β : Type} (a : Res (List α)) (b : Res (List β)) : Res (List (α × β)) := a.bind fun x => b.bind fun y => .ok (zipL x y)
@[simp] theorem zipM_ok {α β : Type} (x : List α) (y : List β) : zipM (.ok x) (.ok y) = .ok (zipL x y) := rfl
section
variable {α β : Type} {K : PySem.W.Frag} {fm : Fm} {σ : L2.St} {G : Hp} {O : Own} {ta tb : TE} {R : Rp α} {S : Rp β}
theorem itzB_ok {s t : Bool} {a b : Addr} {vs ws : List V} {xs : List α} {ys : List β} (h : SqB s K G a vs) (h' : SqB t K G b ws) (r : RLs R K G vs xs) (r' : RLs S K G ws ys) : ItOk K G [] (rP2 R S) (ItzB s t K a b) (zipL xs ys) where
  go := fun i G1 H e e' _ hi => by
    have hi : i < min xs.length ys.length := by simpa [zipL] using hi
    obtain ⟨x, hx⟩ := paired_lt r (show i < xs.length by omega)
    obtain ⟨y, hy⟩ := paired_lt r' (show i < ys.length by omega)
    exact ⟨vs, ws, x, y, same_b (e.trans e') h, same_b (e.trans e') h', hx, hy⟩
  stop := fun G1 H e e' _ => by
    have hl : (zipL xs ys).length = min xs.length ys.length := by simp [zipL]
    have l1 := Paired.length r
    have l2 := Paired.length r'
    rw [hl]
    exact ⟨vs, ws, same_b (e.trans e') h, same_b (e.trans e') h', by omega, by omega, by omega⟩
  yld := fun i G1 H v H' e e' _ hi y => by
    obtain ⟨T, x, y, ev, hT, eH, f1, f2⟩ := y
    subst ev eH
    obtain ⟨x', hx, rx⟩ := paired_get r (f1 vs (same_b (e.trans e') h))
    obtain ⟨y', hy, ry⟩ := paired_get r' (f2 ws (same_b (e.trans e') h'))
    have hz : (zipL xs ys)[i]? = some (x', y') := by
      unfold zipL
      rw [List.getElem?_zip_eq_some]
      exact ⟨hx, hy⟩
    refine ⟨(x', y'), _, hz, Stp.new e' hT, T, _, rfl, .inl (.inl upd_same), x, _, rfl, ?_, y, rfl, ?_⟩
    · exact R.mono (e.trans (same_new (same_back e' hT))) rx
    · exact S.mono (e.trans (same_new (same_back e' hT))) ry
/-- a value that is a sequence of that kind -/
def Sk (t : Bool) (K : PySem.W.Frag) (C : Rp (List α)) (R : Rp α) : Prop := ∀ G v xs, C.r K G v xs → ∃ p vs, v = .ref p ∧ SqB t K G p vs ∧ RLs R K G vs xs
theorem sk_T : Sk true K (rT R) R := fun G v xs ⟨p, vs, a, b, c⟩ => ⟨p, vs, a, b, c⟩
theorem sk_L : Sk false K (rL R) R := fun G v xs ⟨p, vs, a, b, c⟩ => ⟨p, vs, a, b, c⟩
theorem sk_K : Sk false K (rK R) R := fun G v xs h => sk_L _ _ _ (rK_rL h)
theorem i_zipB {s t : Bool} {C : Rp (List α)} {C' : Rp (List β)} {m : Res (List α)} {n : Res (List β)} (c : Sk s K C R) (c' : Sk t K C' S) (ha : EvE K fm ta σ G O C m) (hb : EvE K fm tb σ G O C' n) : EvI K fm (iZipB s t K (tCons ta (tCons tb tNil))) σ G O [] (rP2 R S) (zipM m n) := fun G1 H1 e k Q q =>
  ha G1 H1 e k _ (Res.wp_mono (Res.wp_bind q) (fun xs q v G2 H2 s2 r => hb G2 H2 (e.trans s2.gg) (k.stp s2) _ (Res.wp_mono (Res.wp_bind q) (fun ys q w G3 H3 s3 r' => by
    obtain ⟨p, vs, ev, hq, rs⟩ := c _ _ _ (C.mono s3.gg r)
    obtain ⟨p', ws, ew, hq', rs'⟩ := c' _ _ _ r'
    subst ev ew
    exact ⟨p, p', vs, ws, rfl, same_b s3.gh hq, same_b s3.gh hq', q _ G3 H3 (s2.trans s3) (itzB_ok hq hq' rs rs')⟩) fun _ _ z => z)) fun _ _ z => z)
end
end Mw

namespace Mw
open PySem PySem.Spec PyProof.Rows L2
section
variable {α β γ δ ρ : Type} {K : PySem.W.Frag} {fm : Fm} {σ : L2.St} {G G' H H' : Hp} {O : Own} {te ta tb : TE} {R : Rp α} {m : Res α} {D : Ends} {tr : TS} {Q : ρ → Prop}
/-! ### xs[::-1] -/
def revM {α : Type} (m : Res (List α)) : Res (List α) := m.bind fun xs => .ok xs.reverse
@[simp] theorem revM_ok {α : Type} (xs : List α) : revM (.ok xs) = .ok xs.reverse := rfl
theorem n_rev {m : Res (List α)} (h : EvE K fm te σ G O (rL R) m) : EvN K fm (tRevL K te) σ G O R (revM m) := fun G1 H1 e k Q q =>
  h G1 H1 e k _ (Res.wp_mono (Res.wp_bind q) (fun xs q v G2 H2 s ⟨p, vs, ev, hq, r⟩ =>
    ⟨p, vs, ev, same_l s.gh hq, fun p' hp => q p' _ G2 _ (s.trans (Stp.grow s.gh (same_new hp))) (same_back s.hh hp) (same_back s.gh hp) upd_same (paired_rev r)⟩) fun _ _ z => z)
/-! ### t[lo:hi], t + u of tuples -/
theorem e_sliceT {tl th : TO} {m : Res (List α)} {lo hi : Res (Option Int)} (h : EvE K fm te σ G O (rT R) m) (h1 : EvO fm tl σ G O lo) (h2 : EvO fm th σ G O hi) : EvE K fm (tSl (rSlA K) te tl th) σ G O (rT R) (sliceM m lo hi) := fun G1 H1 e k Q q =>
  h G1 H1 e k _ (Res.wp_mono (Res.wp_bind q) (fun xs q v G2 H2 s r =>
    h1 G2 H2 (e.trans s.gg) (k.stp s) _ (Res.wp_mono (Res.wp_bind q) (fun l q G3 H3 s' =>
      h2 G3 H3 ((e.trans s.gg).trans s'.gg) ((k.stp s).stp s') _ (Res.wp_mono (Res.wp_bind q) (fun hh q G4 H4 s'' => by
        obtain ⟨p, vs, ev, hq, rs⟩ := r
        have ss := (s.trans s').trans s''
        have rs' := rs.mono (s'.gg.trans s''.gg)
        have hq' := same_t (s'.gg.trans s''.gg) hq
        refine ⟨p, vs, ev, same_t ss.gh hq', fun hw => q _ G4 H4 ss ⟨p, _, rfl, hq', ?_⟩, fun _ p' hp => q _ _ _ (ss.trans (Stp.new ss.gh hp)) ⟨p', _, rfl, .inl (.inl upd_same), RLs.mono (same_new (same_back ss.gh hp)) (paired_cut rs' _ _)⟩⟩
        have el : cutL xs l hh = xs := by
          unfold cutL
          rw [← Paired.length rs, hw.1, hw.2, List.drop_zero, Nat.sub_zero, Paired.length rs, List.take_length]
        rw [el]
        exact rs') fun _ _ z => z)) fun _ _ z => z)) fun _ _ z => z)
theorem e_catT {m n : Res (List α)} (ha : EvE K fm ta σ G O (rT R) m) (hb : EvE K fm tb σ G O (rT R) n) : EvE K fm (tOp (rCatA K) ta tb) σ G O (rT R) (catM m n) := fun G1 H1 e k Q q =>
  ha G1 H1 e k _ (Res.wp_mono (Res.wp_bind q) (fun x q u G2 H2 s ru =>
    hb G2 H2 (e.trans s.gg) (k.stp s) _ (Res.wp_mono (Res.wp_bind q) (fun y q v G3 H3 s' rv => by
      obtain ⟨p, vs, e1, h1, r1⟩ := ru
      obtain ⟨p', vs', e2, h2, r2⟩ := rv
      by_cases hl : x.length + y.length ≤ lim
      · rw [catF, if_pos hl] at q
        have ss := s.trans s'
        have h1' := same_t s'.gg h1
        have r1' := r1.mono s'.gg
        refine ⟨p, p', vs, vs', e1, e2, same_t ss.gh h1', same_t s'.gh h2, by rw [Paired.length r1, Paired.length r2, ← lim_eq]; exact hl, fun hx => ?_, fun _ hy => ?_, fun _ _ l hl => ?_⟩
        · subst hx
          cases r1
          exact q _ G3 H3 ss ⟨p', vs', rfl, h2, r2⟩
        · subst hy
          cases r2
          rw [List.append_nil] at q
          exact q _ G3 H3 ss ⟨p, vs, rfl, h1', r1'⟩
        · exact q _ _ _ (ss.trans (Stp.new ss.gh hl)) ⟨l, _, rfl, .inl (.inl upd_same), RLs.mono (same_new (same_back ss.gh hl)) (paired_app r1' r2)⟩
      · rw [catF, if_neg hl] at q; exact q.elim) fun _ _ z => z)) fun _ _ z => z)
/-! ### xs.insert(i, e) -/
def insF {α : Type} (xs : List α) (i : Int) (y : α) : Res (List α) := if xs.length < lim ∧ 0 ≤ i ∧ i < 2 ^ 62 then .ok (xs.take i.toNat ++ [y] ++ xs.drop i.toNat) else .stuck
def insM {α ρ : Type} (xs : List α) (n : Res Int) (m : Res α) (mk : List α → Res ρ) : Res ρ := n.bind fun i => m.bind fun y => (insF xs i y).bind mk
abbrev rInsert : V → List V → Hp → VK → Prop := fun x vs H Q => ∃ (l : Addr) (xs : List V) (i : Int) (y : V), x = .ref l ∧ vs = [.int i, y] ∧ H l = some (.lst xs) ∧ xs.length < sizeLine ∧ 0 ≤ i ∧ i < 2 ^ 63 ∧ Q .non (upd H l (.lst (xs.take i.toNat ++ [y] ++ xs.drop i.toNat)))
theorem w_ins {i : Nat} (j : Nat) {l : Addr} {vs : List V} {xs : List α} {m : Res α} {n : Res Int} {mk : List α → Res ρ} (hx : σ[i]? = some (some (.ref l))) (hj : O[j]? = some (l, .lst vs)) (hr : RLs R K G vs xs) (hi : EvE K fm ta σ G O zI n) (he : EvE K fm te σ G O R m) (hs : Hs fm G O H)
    (hm : Wp (insM xs n m mk) Q fm.xw)
    (k : ∀ ys ws G' H', Same G G' → Hs fm G' (O.set j (l, .lst ws)) H' → RLs R K G' ws ys → Wp (mk ys) Q fm.xw → tr D σ H') : tSeq (tDrop (tBM K "list" rInsert (tVar i) (tCons ta (tCons te tNil)))) tr D σ H :=
  ⟨_, hx, .inl ⟨rfl, vs, SqL.of (hs.at j hj).1⟩, hi G H (Same.refl _) hs.kn _ (Res.wp_mono (Res.wp_bind hm.out) (fun z q v G2 H2 s r => he G2 H2 s.gg (hs.stp s).kn _ (Res.wp_mono (Res.wp_bind q) (fun y q v' G3 H3 s' r' => by
    have ss := s.trans s'
    cases (show v = .int z from r)
    by_cases hl : xs.length < lim ∧ 0 ≤ z ∧ z < 2 ^ 62
    · rw [insF, if_pos hl] at q
      refine ⟨l, vs, z, v', rfl, rfl, ss.hh _ _ (hs.at j hj).1, by rw [Paired.length hr, ← lim_eq]; exact hl.1, hl.2.1, Int.lt_trans hl.2.2 (by decide), ?_⟩
      have hr' := hr.mono ss.gg
      exact k _ _ G3 _ ss.gg ((hs.stp ss).set j hj) (paired_app (paired_app (paired_take _ hr') (.cons r' .nil)) (paired_drop _ hr')) (.mk q)
    · rw [insF, if_neg hl] at q; exact q.elim) fun _ _ z => z)) fun _ _ z => z)⟩
/-! ### list(range(..)) -/
def rgOk (a b : Int) : Bool := inR a && inR b && decide ((b - a).toNat ≤ lim)
def lrg1M (a : Res Int) : Res (List Int) := a.bind fun j => if rgOk 0 j = true then .ok (rgL 0 j.toNat) else .stuck
def lrg2M (a b : Res Int) : Res (List Int) := a.bind fun i => b.bind fun j => if rgOk i j = true then .ok (rgL i (j - i).toNat) else .stuck
theorem paired_rg (i : Int) (n : Nat) : RLs zI K G ((List.range n).map fun k => V.int (i + (k : Nat))) (rgL i n) := by
  unfold rgL
  have : (List.range n).map (fun k => V.int (i + (k : Nat))) = ((List.range n).map fun k => i + ((k : Nat) : Int)).map V.int := by rw [List.map_map]; rfl
  rw [this]
  exact paired_map V.int (fun _ => rfl) _
theorem rgOk_ok {a b : Int} (h : rgOk a b = true) : RgOk a b := by
  simp only [rgOk, inR, Bool.and_eq_true, decide_eq_true_eq] at h
  obtain ⟨⟨⟨h1, h2⟩, h3, h4⟩, h5⟩ := h
  exact ⟨h1, h2, h3, h4, by rw [lim] at h5; omega⟩
theorem n_lrg1 {a : Res Int} (h : EvE K fm te σ G O zI a) : EvN K fm (tLstRg (tRg1 te)) σ G O zI (lrg1M a) := fun G1 H1 e k Q q =>
  h G1 H1 e k _ (Res.wp_mono (Res.wp_bind q) (fun j q v G2 H2 s r => by
    cases (show v = .int j from r)
    cases hj : rgOk 0 j with
    | false => rw [hj] at q; exact q.elim
    | true =>
      rw [hj, if_pos rfl] at q
      refine ⟨j, rfl, rgOk_ok hj, fun p hp => q p _ G2 _ (s.trans (Stp.grow s.gh (same_new hp))) (same_back s.hh hp) (same_back s.gh hp) upd_same ?_⟩
      have := paired_rg (K := K) (G := G2) 0 (j - 0).toNat
      rw [Int.sub_zero] at this
      unfold rgV
      rw [Int.sub_zero]
      exact this) fun _ _ z => z)
theorem n_lrg2 {a b : Res Int} (h : EvE K fm ta σ G O zI a) (h' : EvE K fm tb σ G O zI b) : EvN K fm (tLstRg (tRg2 ta tb)) σ G O zI (lrg2M a b) := fun G1 H1 e k Q q =>
  h G1 H1 e k _ (Res.wp_mono (Res.wp_bind q) (fun i q v G2 H2 s r => h' G2 H2 (e.trans s.gg) (k.stp s) _ (Res.wp_mono (Res.wp_bind q) (fun j q w G3 H3 s' r' => by
    cases (show v = .int i from r)
    cases (show w = .int j from r')
    cases hj : rgOk i j with
    | false => rw [hj] at q; exact q.elim
    | true =>
      rw [hj, if_pos rfl] at q
      have ss := s.trans s'
      exact ⟨i, j, rfl, rfl, rgOk_ok hj, fun p hp => q p _ G3 _ (ss.trans (Stp.grow ss.gh (same_new hp))) (same_back ss.hh hp) (same_back ss.gh hp) upd_same (paired_rg i _)⟩) fun _ _ z => z)) fun _ _ z => z)
/-! ### readings that no list's cell bears -/
def KpL (G G' : Hp) : Prop := ∀ b o, G b = some o → (∀ vs, o ≠ .lst vs) → G' b = some o
def Nl {α : Type} (R : Rp α) : Prop := ∀ K G G' v x, KpL G G' → R.r K G v x → R.r K G' v x
def Nls {α : Type} (S : Rps α) : Prop := ∀ K G G' vs x, KpL G G' → S.r K G vs x → S.r K G' vs x
theorem nl_sc {R : Rp α} (h : Sc R) : Nl R := fun K G G' v x _ r => h _ _ _ _ _ r
theorem nl_I : Nl zI := nl_sc sc_I
theorem nl_B : Nl rB := nl_sc sc_B
theorem nl_N : Nl rN := nl_sc sc_N
theorem nl_S : Nl rS := nl_sc sc_S
theorem nl_O {R : Rp α} (h : Nl R) : Nl (rO R) := fun K G G' v o k q => by
  cases o with
  | none => exact q
  | some a => exact ⟨q.1, h K G G' v a k q.2⟩
theorem nl_sqT {G G' : Hp} {p : Addr} {vs : List V} (k : KpL G G') (h : SqT K G p vs) : SqT K G' p vs := by
  rcases h with (h | ⟨o, h⟩) | h
  · exact .inl (.inl (k _ _ h fun vs q => by cases q))
  · exact .inl (.inr ⟨o, k _ _ h fun vs q => by cases q⟩)
  · exact .inr h
theorem nl_T {R : Rp α} (h : Nl R) : Nl (rT R) := fun K G G' v x k ⟨p, vs, a, b, c⟩ => ⟨p, vs, a, nl_sqT k b, Paired.mapP c fun _ _ z => h _ _ _ _ _ k z⟩
theorem nl_P {S : Rps α} (h : Nls S) : Nl (rP S) := fun K G G' v x k ⟨p, vs, a, b, c⟩ => ⟨p, vs, a, nl_sqT k b, h _ _ _ _ _ k c⟩
theorem nls1 {R : Rp α} (h : Nl R) : Nls (rs1 R) := fun K G G' vs x k ⟨v, a, b⟩ => ⟨v, a, h _ _ _ _ _ k b⟩
theorem nlsC {R : Rp α} {S : Rps β} (h : Nl R) (h' : Nls S) : Nls (rsC R S) := fun K G G' vs x k ⟨v, r, a, b, c⟩ => ⟨v, r, a, h _ _ _ _ _ k b, h' _ _ _ _ _ k c⟩
/-! ### a list that a callee has made, as one's own -/
theorem n_callF {S : Rps β} {f : β → Res (List α)} {R : Rp α} {t : TA} {m : Res β} (sl : Nl R) (h : EvA K fm t σ G O S m) : EvN K fm (tCall (spPF K fm.cl S (fun F => rF F R) f) [] fm.E t) σ G O R (m.bind f) := fun G1 H1 e k Q q =>
  h G1 H1 e k _ (Res.wp_mono (Res.wp_bind q) (fun x q vs G2 H2 s r => ⟨G2, x, s.gh, by rw [List.append_nil]; exact r,
    .mk (Res.wp_mono q (fun y q v G3 H3 s' rv => by
      obtain ⟨p, ws, ev, hp, hg, rs⟩ := rv
      subst ev
      have h1 : H1 p = none := same_back s.hh hp
      refine q p ws (fun b => if b = p then none else G3 b) H3 ⟨s.hh.trans s'.hh, fun b o hb => ?_, fun b o hb => ?_, fun b o hb => ?_⟩ h1 (if_pos rfl) (s'.gh _ _ hg) (Paired.mapP rs fun _ _ z => sl _ _ _ _ _ (fun b o hb hn => by
        have hne : b ≠ p := fun q => by rw [q, hg] at hb; cases hb; exact hn _ rfl
        show (if b = p then none else G3 b) = _
        rw [if_neg hne]
        exact hb) z)
      · have hne : b ≠ p := fun q => by rw [q] at hb; rw [k.gh _ _ hb] at h1; cases h1
        show (if b = p then none else G3 b) = _
        rw [if_neg hne]
        exact s'.gg _ _ (s.gg _ _ hb)
      · by_cases hne : b = p
        · rw [if_pos hne] at hb; cases hb
        · rw [if_neg hne] at hb; exact s'.gh _ _ hb
      · have hne : b ≠ p := fun q => by rw [q] at hb; rw [hb] at h1; cases h1
        show (if b = p then none else G3 b) = _
        rw [if_neg hne]
        exact (s'.old _ _ (s.hh _ _ hb)).trans (s.old _ _ hb)) fun c fs z H' d a b => z H' d ((k.stp s).fr.trans a) b)⟩) fun _ _ z => z)
theorem _root_.Mw.EvN.evF {R : Rp α} {m : Res (List α)} (h : EvN K fm te σ G O R m) : EvE K fm te σ G O (rF fm.F R) m := fun G1 H1 a k Q q =>
  h G1 H1 a k Q (Res.wp_mono q (fun xs f p vs G2 H2 s hp gp hl r =>
    f (.ref p) (upd G2 p (.lst vs)) H2 ⟨s.hh, s.gg.trans (same_new gp), same_updG s.gh hl, fun b o e => by
        rw [upd_ne (ne_of_none e hp)]; exact s.old b o e⟩
      ⟨p, vs, rfl, same_back k.fr hp, upd_same, r.mono (same_new gp)⟩) fun _ _ x => x)
end
end Mw

namespace Mw
open PySem PySem.Spec PyProof.Rows L2
/-! ### expressions that write one object; an exception, too, leaves it in a known state -/
inductive Xr (α : Type) where
  | ok (a : α) | exc (c : Nat) (fs : List (Str × V))
abbrev Xs (α δ : Type) := Res (Xr α × δ)
/-- the exceptional way out -/
def bindK {α δ ρ : Type} (m : Xs α δ) (ex : Nat → List (Str × V) → δ → Res ρ) (k : α → δ → Res ρ) : Res ρ := match m with | .ok x => (match x.1 with | .ok a => k a x.2 | .exc c fs => ex c fs x.2) | _ => .stuck
def exX {α δ : Type} : Nat → List (Str × V) → δ → Xs α δ := fun c fs d => .ok (.exc c fs, d)
abbrev bindX {α β δ : Type} (m : Xs α δ) (k : α → δ → Xs β δ) : Xs β δ := bindK m exX k
theorem bindK_ok {α δ ρ : Type} (a : α) (d : δ) (ex : Nat → List (Str × V) → δ → Res ρ) (k : α → δ → Res ρ) : bindK (.ok (.ok a, d)) ex k = k a d := rfl
theorem bindK_exc {α δ ρ : Type} (c : Nat) (fs) (d : δ) (ex : Nat → List (Str × V) → δ → Res ρ) (k : α → δ → Res ρ) : bindK (.ok (.exc c fs, d)) ex k = ex c fs d := rfl
/-- what doesn't write: its exception leaves the state as it is -/
def pureX {α δ : Type} (m : δ → Res α) : δ → Xs α δ := fun d => match m d with | .ok x => .ok (.ok x, d) | .exc c fs => .ok (.exc c fs, d) | .stuck => .stuck
theorem pureX_ok {α δ : Type} {m : δ → Res α} {d : δ} {x : α} (h : m d = .ok x) : pureX m d = .ok (.ok x, d) := by unfold pureX; rw [h]
theorem pureX_exc {α δ : Type} {m : δ → Res α} {d : δ} {c fs} (h : m d = .exc c fs) : pureX m d = .ok (.exc c fs, d) := by unfold pureX; rw [h]
/-- what never raises -/
def liftX {α δ : Type} (m : Res (α × δ)) : Xs α δ := match m with | .ok x => .ok (.ok x.1, x.2) | _ => .stuck
theorem liftX_ok {α δ : Type} (a : α) (d : δ) : liftX (.ok (a, d)) = .ok (.ok a, d) := rfl
@[reducible] def pairX {α β δ : Type} (f : δ → Xs α δ) (g : δ → Xs β δ) : δ → Xs (α × β) δ := fun d => bindX (f d) fun x d => bindX (g d) fun y d => .ok (.ok (x, y), d)
@[reducible] def callX {α β δ : Type} (f : δ → Xs α δ) (h : δ → α → Xs β δ) : δ → Xs β δ := fun d => bindX (f d) fun x d => h d x
@[reducible] def mapX {α β δ : Type} (f : δ → Xs α δ) (h : α → Res β) : δ → Xs β δ := fun d => bindX (f d) fun x d => pureX (fun _ => h x) d
@[reducible] def map2X {α β γ δ : Type} (f : δ → Xs α δ) (g : δ → Xs β δ) (h : α → β → Res γ) : δ → Xs γ δ := fun d => bindX (f d) fun x d => bindX (g d) fun y d => pureX (fun _ => h x y) d
@[reducible] def readX {α β δ : Type} (f : δ → Xs α δ) (h : δ → α → Res β) : δ → Xs β δ := fun d => bindX (f d) fun x d => pureX (fun _ => h d x) d
@[reducible] def iteX {α δ : Type} (c : δ → Xs Bool δ) (a b : δ → Xs α δ) : δ → Xs α δ := fun d => bindX (c d) fun x d => if x = true then a d else b d
@[reducible] def andX {δ : Type} (c a : δ → Xs Bool δ) : δ → Xs Bool δ := fun d => bindX (c d) fun x d => if x = true then a d else .ok (.ok false, d)
@[reducible] def orX {δ : Type} (c a : δ → Xs Bool δ) : δ → Xs Bool δ := fun d => bindX (c d) fun x d => if x = true then .ok (.ok true, d) else a d
/-- the two ways out of what writes -/
def wpX {α δ : Type} (m : Xs α δ) (Q : α → δ → Prop) (E : Nat → List (Str × V) → δ → Prop) : Prop := m.wp (fun x => match x.1 with | .ok a => Q a x.2 | .exc c fs => E c fs x.2) fun _ _ => False
theorem wpX_bind {α β δ : Type} {m : Xs α δ} {k : α → δ → Xs β δ} {Q E} (h : wpX (bindX m k) Q E) : wpX m (fun a d => wpX (k a d) Q E) E := by
  unfold wpX bindX bindK at *
  cases m with
  | ok x =>
    obtain ⟨x, d⟩ := x
    cases x with
    | ok a => exact h
    | exc c fs => exact h
  | exc c fs => exact h.elim
  | stuck => exact h.elim
theorem wpX_mono {α δ : Type} {m : Xs α δ} {Q Q' : α → δ → Prop} {E E' : Nat → List (Str × V) → δ → Prop} (h : wpX m Q E) (hq : ∀ a d, Q a d → Q' a d) (he : ∀ c fs d, E c fs d → E' c fs d) : wpX m Q' E' := by
  unfold wpX at *
  cases m with
  | ok x =>
    obtain ⟨x, d⟩ := x
    cases x with
    | ok a => exact hq _ _ h
    | exc c fs => exact he _ _ _ h
  | exc c fs => exact h
  | stuck => exact h
theorem wpX_pureC {α δ : Type} {m : Res α} {d : δ} {Q E} (h : wpX (pureX (fun _ => m) d) Q E) : m.wp (fun a => Q a d) (fun c fs => E c fs d) := by
  unfold wpX pureX at h
  cases e : m with
  | ok x => rw [e] at h; exact h
  | exc c fs => rw [e] at h; exact h
  | stuck => rw [e] at h; exact h
theorem wpX_pure {α δ : Type} {m : δ → Res α} {d : δ} {Q E} (h : wpX (pureX m d) Q E) : (m d).wp (fun a => Q a d) (fun c fs => E c fs d) := by
  unfold wpX pureX at h
  cases e : m d with
  | ok x => rw [e] at h; exact h
  | exc c fs => rw [e] at h; exact h
  | stuck => rw [e] at h; exact h
theorem wpX_K {α δ ρ : Type} {m : Xs α δ} {ex : Nat → List (Str × V) → δ → Res ρ} {k : α → δ → Res ρ} {Q E} (h : Wp (bindK m ex k) Q E) : wpX m (fun a d => Wp (k a d) Q E) (fun c fs d => Wp (ex c fs d) Q E) := by
  have h := h.out
  unfold wpX
  unfold bindK at h
  cases m with
  | ok x =>
    obtain ⟨x, d⟩ := x
    cases x with
    | ok a => exact .mk h
    | exc c fs => exact .mk h
  | exc c fs => exact h.elim
  | stuck => exact h.elim
@[irreducible] def WpX {α δ : Type} (m : Xs α δ) (Q : α → δ → Prop) (E : Nat → List (Str × V) → δ → Prop) : Prop := wpX m Q E
theorem WpX.out {α δ : Type} {m : Xs α δ} {Q : α → δ → Prop} {E} (h : WpX m Q E) : wpX m Q E := by unfold WpX at h; exact h
theorem WpX.mk {α δ : Type} {m : Xs α δ} {Q : α → δ → Prop} {E} (h : wpX m Q E) : WpX m Q E := by unfold WpX; exact h
/-- the way out by an exception -/
def exitX {δ : Type} (fm : Fm) (Ob : δ → V → Hp → Own → Prop) (v0 : V) (c : Nat) (fs : List (Str × V)) (d : δ) : Prop := ∀ G O H dd, Hs fm G O H → Ob d v0 G O → XdOk fs dd H → fm.E (.ref (fm.cl c)) dd H
/-- what a def that writes an object promises, its exceptions too -/
def spX {α β δ : Type} (K : PySem.W.Frag) (cl : Nat → Addr) (Ob : δ → V → Hp → Own → Prop) (S : V → Rps α) (R : Rp β) (f : δ → α → Xs β δ) : Sp := fun vs H Q E => ∃ F G O d v0 a, Hs ⟨F, G, E, cl⟩ G O H ∧ Ob d v0 G O ∧ (S v0).r K G vs a ∧
  WpX (f d a) (fun y d' => ∀ v G' O' H', Hs ⟨F, G, E, cl⟩ G' O' H' → Ob d' v0 G' O' → R.r K G' v y → Q v H') (exitX ⟨F, G, E, cl⟩ Ob v0)
theorem spX_ofN {α β δ : Type} {K : PySem.W.Frag} {cl : Nat → Addr} {Ob : δ → V → Hp → Own → Prop} {S : V → Rps α} {R : Rp β} {f : δ → α → Res (β × δ)} (vs : List V) (H : Hp) (Q : VK) (E : XK)
    (h : spX K cl Ob S R (fun s a => liftX (f s a)) vs H Q E) : spN K cl Ob S R f vs H Q E := by
  obtain ⟨F, G, O, d, v0, a, hs, ob, hS, hm⟩ := h
  refine ⟨F, G, O, d, v0, a, hs, ob, hS, .mk ?_⟩
  have hm := hm.out
  dsimp only at hm
  unfold wpX liftX at hm
  cases e : f d a with
  | ok x => rw [e] at hm; exact hm
  | exc c fs => rw [e] at hm; exact hm.elim
  | stuck => rw [e] at hm; exact hm.elim
theorem spX_ofM {α β δ : Type} {K : PySem.W.Frag} {cl : Nat → Addr} {Ob : δ → V → Hp → Own → Prop} {S : Rps α} {R : Rp β} {f : δ → α → Res (β × δ)} (vs : List V) (H : Hp) (Q : VK) (E : XK)
    (h : spX K cl Ob (fun v0 => rsV v0 S) R (fun s a => liftX (f s a)) vs H Q E) : spM K cl Ob S R f vs H Q E := spN_of vs H Q E (spX_ofN vs H Q E h)
/-- what the body of such a def is to reach -/
def QX {β δ : Type} (K : PySem.W.Frag) (fm : Fm) (Ob : δ → V → Hp → Own → Prop) (v0 : V) (R : Rp β) (Q : VK) : Xr β × δ → Prop := fun x => match x.1 with
  | .ok y => ∀ v G' O' H', Hs fm G' O' H' → Ob x.2 v0 G' O' → R.r K G' v y → Q v H'
  | .exc c fs => exitX fm Ob v0 c fs x.2
theorem QX.start {β δ : Type} {K : PySem.W.Frag} {fm : Fm} {Ob : δ → V → Hp → Own → Prop} {v0 : V} {R : Rp β} {Q : VK} {m : Xs β δ} (h : WpX m (fun y d' => ∀ v G' O' H', Hs fm G' O' H' → Ob d' v0 G' O' → R.r K G' v y → Q v H') (exitX fm Ob v0)) : Wp m (QX K fm Ob v0 R Q) fm.xw := .mk (by
  have h := h.out
  unfold wpX at h
  cases m with
  | ok x =>
    obtain ⟨x, d⟩ := x
    cases x with
    | ok a => exact h
    | exc c fs => exact h
  | exc c fs => exact h.elim
  | stuck => exact h.elim)
section
variable {α β γ δ ε ρ : Type} (K : PySem.W.Frag) (fm : Fm) (σ : L2.St) (G : Hp) (La Lb : Own) (Ob : δ → V → Hp → Own → Prop) (v0 : V)
def ExK (G1 : Hp) (c : Nat) (fs : List (Str × V)) (d' : δ) : Prop := ∀ G2 O2 H2 dd, Same G1 G2 → Hs fm G2 (La ++ (O2 ++ Lb)) H2 → Ob d' v0 G2 O2 → XdOk fs dd H2 → fm.E (.ref (fm.cl c)) dd H2
def EvX (te : TE) (R : Rp α) (f : δ → Xs α δ) : Prop := ∀ d O G1 H1, Same G G1 → Hs fm G1 (La ++ (O ++ Lb)) H1 → Ob d v0 G1 O → ∀ Q : VK,
  wpX (f d) (fun x d' => ∀ v G2 O2 H2, Same G1 G2 → Hs fm G2 (La ++ (O2 ++ Lb)) H2 → Ob d' v0 G2 O2 → R.r K G2 v x → Q v H2) (ExK fm La Lb Ob v0 G1) → te σ H1 Q
def EvXA (ta : TA) (S : Rps α) (f : δ → Xs α δ) : Prop := ∀ d O G1 H1, Same G G1 → Hs fm G1 (La ++ (O ++ Lb)) H1 → Ob d v0 G1 O → ∀ Q : List V → Hp → Prop,
  wpX (f d) (fun x d' => ∀ vs G2 O2 H2, Same G1 G2 → Hs fm G2 (La ++ (O2 ++ Lb)) H2 → Ob d' v0 G2 O2 → S.r K G2 vs x → Q vs H2) (ExK fm La Lb Ob v0 G1) → ta σ H1 Q
def EvXT (tt : TT) (f : δ → Xs Bool δ) : Prop := ∀ d O G1 H1, Same G G1 → Hs fm G1 (La ++ (O ++ Lb)) H1 → Ob d v0 G1 O → ∀ Q : Bool → Hp → Prop,
  wpX (f d) (fun x d' => ∀ G2 O2 H2, Same G1 G2 → Hs fm G2 (La ++ (O2 ++ Lb)) H2 → Ob d' v0 G2 O2 → Q x H2) (ExK fm La Lb Ob v0 G1) → tt σ H1 Q
end
section
variable {α β γ δ ε ρ α' : Type} {K : PySem.W.Frag} {fm : Fm} {σ : L2.St} {G G' H H' : Hp} {O O' La Lb : Own} {Ob : δ → V → Hp → Own → Prop} {v0 : V} {d : δ}
variable {te ta tb tc : TE} {R : Rp α} {S : Rp β} {T : Rp γ} {m : Res α} {n : Res β} {f : δ → Xs α δ} {g : δ → Xs β δ}
variable {D : Ends} {tr tt tu tw : TS} {Q : ρ → Prop}
theorem ExK.mono {G1 G2 : Hp} (e : Same G1 G2) {c fs} {d' : δ} (h : ExK fm La Lb Ob v0 G1 c fs d') : ExK fm La Lb Ob v0 G2 c fs d' := fun G3 O3 H3 dd e3 => h G3 O3 H3 dd (e.trans e3)
/-- the frame of a pure step is the whole heap -/
abbrev fmH (fm : Fm) (F : Hp) : Fm := ⟨F, fm.G0, fm.E, fm.cl⟩
theorem y_pure {f : δ → Res α} (obm : Obm Ob) (h : ∀ F d O G', Same G G' → Ob d v0 G' O → EvE K (fmH fm F) te σ G' (La ++ (O ++ Lb)) R (f d)) : EvX K fm σ G La Lb Ob v0 te R (pureX f) := fun d O G1 H1 e hs ob Q q =>
  h H1 d O G1 e ob G1 H1 (Same.refl _) ⟨Same.refl _, hs.gh, fun p hp => (hs.own p hp).1⟩ Q (Res.wp_mono (wpX_pure q) (fun x q v G2 H2 s r => q v G2 O H2 s.gg (hs.stp s) (obm _ _ _ _ _ s.gg ob) r) fun c fs z H' dd a b => z G1 O H' dd (Same.refl _) (hs.stp (Stp.grow hs.gh a)) ob b)
theorem y_pure0 (obm : Obm Ob) (h : ∀ F O, EvE K (fmH fm F) te σ G (La ++ (O ++ Lb)) R m) : EvX K fm σ G La Lb Ob v0 te R (pureX fun _ => m) := y_pure obm fun F d O G' e _ => (h F O).mono e
theorem yt_pure {tt : TT} {f : δ → Res Bool} (obm : Obm Ob) (h : ∀ F d O G', Same G G' → Ob d v0 G' O → EvT (fmH fm F) tt σ G' (La ++ (O ++ Lb)) (f d)) : EvXT fm σ G La Lb Ob v0 tt (pureX f) := fun d O G1 H1 e hs ob Q q =>
  h H1 d O G1 e ob G1 H1 (Same.refl _) ⟨Same.refl _, hs.gh, fun p hp => (hs.own p hp).1⟩ Q (Res.wp_mono (wpX_pure q) (fun x q G2 H2 s => q G2 O H2 s.gg (hs.stp s) (obm _ _ _ _ _ s.gg ob)) fun c fs z H' dd a b => z G1 O H' dd (Same.refl _) (hs.stp (Stp.grow hs.gh a)) ob b)
theorem yt_pure0 {tt : TT} {m : Res Bool} (obm : Obm Ob) (h : ∀ F O, EvT (fmH fm F) tt σ G (La ++ (O ++ Lb)) m) : EvXT fm σ G La Lb Ob v0 tt (pureX fun _ => m) := yt_pure obm fun F d O G' e _ => (h F O).mono e
/-! arguments -/
theorem yA_nil : EvXA K fm σ G La Lb Ob v0 tNil rs0 (pureX fun _ => .ok ()) := fun d O G1 H1 e hs ob Q q => q [] G1 O H1 (Same.refl _) hs ob rfl
theorem yA_one (h : EvX K fm σ G La Lb Ob v0 te R f) : EvXA K fm σ G La Lb Ob v0 (tCons te tNil) (rs1 R) f := fun d O G1 H1 e hs ob Q q =>
  h d O G1 H1 e hs ob _ (wpX_mono q (fun x d' q v G2 O2 H2 e2 hs2 ob2 r => q [v] G2 O2 H2 e2 hs2 ob2 ⟨v, rfl, r⟩) fun _ _ _ z => z)
theorem yA_cons {S : Rps β} {t : TA} (h : EvX K fm σ G La Lb Ob v0 te R f) (hr : EvXA K fm σ G La Lb Ob v0 t S g) : EvXA K fm σ G La Lb Ob v0 (tCons te t) (rsC R S) (pairX f g) := fun d O G1 H1 e hs ob Q q =>
  h d O G1 H1 e hs ob _ (wpX_mono (wpX_bind q) (fun x d' q v G2 O2 H2 e2 hs2 ob2 r =>
    hr d' O2 G2 H2 (e.trans e2) hs2 ob2 _ (wpX_mono (wpX_bind q) (fun y d'' q vs G3 O3 H3 e3 hs3 ob3 r' => q (v :: vs) G3 O3 H3 (e2.trans e3) hs3 ob3 ⟨v, vs, rfl, R.mono e3 r, r'⟩) fun _ _ _ z => ExK.mono e2 z)) fun _ _ _ z => z)
theorem yA_obj {S : Rps β} {t : TA} {i : Nat} (hv : σ[i]? = some (some v0)) (h : EvXA K fm σ G La Lb Ob v0 t S g) : EvXA K fm σ G La Lb Ob v0 (tCons (tVar i) t) (rsV v0 S) g := fun d O G1 H1 e hs ob Q q =>
  ⟨v0, hv, h d O G1 H1 e hs ob _ (wpX_mono q (fun y d' q vs G3 O3 H3 e3 hs3 ob3 r' => q (v0 :: vs) G3 O3 H3 e3 hs3 ob3 ⟨vs, rfl, r'⟩) fun _ _ _ z => z)⟩
/-! calls -/
theorem y_call {S : V → Rps β} {t : TA} {ma : δ → Xs β δ} {h : δ → β → Xs α δ} (ha : EvXA K fm σ G La Lb Ob v0 t (S v0) ma) : EvX K fm σ G La Lb Ob v0 (tCall (spX K fm.cl Ob S R h) [] fm.E t) R (callX ma h) := fun d O G1 H1 e hs ob Q q =>
  ha d O G1 H1 e hs ob _ (wpX_mono (wpX_bind q) (fun x d' q vs G2 O2 H2 e2 hs2 ob2 r =>
    ⟨without O2 H2, G2, O2, d', v0, x, hs2.sub, ob2, by rw [List.append_nil]; exact r, .mk (wpX_mono q (fun y d'' q v G3 O3 H3 hs3 ob3 r3 => q v G3 O3 H3 (e2.trans hs3.g0) (hs2.back2 hs3) ob3 r3) fun c fs d'' z G3 O3 H3 dd hs3 ob3 xd => z G3 O3 H3 dd (e2.trans hs3.g0) (hs2.back2 hs3) ob3 xd)⟩) fun _ _ _ z => z)
theorem y_callP {S : Rps β} {t : TA} {ma : δ → Xs β δ} {h : β → Res α} (obm : Obm Ob) (ha : EvXA K fm σ G La Lb Ob v0 t S ma) : EvX K fm σ G La Lb Ob v0 (tCall (spP K fm.cl S R h) [] fm.E t) R (mapX ma h) := fun d O G1 H1 e hs ob Q q =>
  ha d O G1 H1 e hs ob _ (wpX_mono (wpX_bind q) (fun x d' q vs G2 O2 H2 e2 hs2 ob2 r =>
    ⟨G2, x, hs2.gh, by rw [List.append_nil]; exact r, .mk (Res.wp_mono (wpX_pureC q) (fun y q v G3 H3 s r3 => q v G3 O2 H3 (e2.trans s.gg) (hs2.stp s) (obm _ _ _ _ _ s.gg ob2) r3) fun c fs z H' dd a b => z G2 O2 H' dd e2 (hs2.stp (Stp.grow hs2.gh a)) ob2 b)⟩) fun _ _ _ z => z)
theorem y_callR {Sg : Rps β} {Ss : Rps α'} {ins : ε → β → α'} {Ro : Rp ε} {ro : δ → ε} {t : TA} {ma : δ → Xs β δ} {h : α' → Res α} (obm : Obm Ob) (L : Lends K Ob Ro ro) (sc : Sc R) (cv : Conv K v0 Sg Ro Ss ins) (ha : EvXA K fm σ G La Lb Ob v0 t Sg ma) :
    EvX K fm σ G La Lb Ob v0 (tCall (spP K fm.cl Ss R h) [] fm.E t) R (readX ma fun d a => h (ins (ro d) a)) := fun d O G1 H1 e hs ob Q q =>
  ha d O G1 H1 e hs ob _ (wpX_mono (wpX_bind q) (fun x d' q vs G2 O2 H2 e2 hs2 ob2 r => by
    obtain ⟨Gl, e3, e4, rr⟩ := L fm d' v0 G2 O2 _ H2 hs2.kn (fun p hp => List.mem_append_right _ (List.mem_append_left _ hp)) ob2
    exact ⟨Gl, ins (ro d') x, e4, by rw [List.append_nil]; exact cv.go _ _ _ _ (Sg.mono e3 r) rr, .mk (Res.wp_mono (wpX_pureC q) (fun y q v G3 H3 s r3 => q v G2 O2 H3 e2 (hs2.stp (Stp.grow hs2.gh s.hh)) ob2 (sc _ _ _ _ _ r3)) fun c fs z H' dd a b => z G2 O2 H' dd e2 (hs2.stp (Stp.grow hs2.gh a)) ob2 b)⟩) fun _ _ _ z => z)
theorem y_meth {S : Rps β} {t : TA} {i : Nat} {C : Addr} {mt : Str} {ma : δ → Xs β δ} {h : δ → β → Xs α δ} (hC : ObjM C Ob mt) (hv : σ[i]? = some (some v0)) (ha : EvXA K fm σ G La Lb Ob v0 t S ma) :
    EvX K fm σ G La Lb Ob v0 (tMeth C mt (spX K fm.cl Ob (fun v0 => rsV v0 S) R h) [] fm.E (tVar i) t) R (callX ma h) := fun d O G1 H1 e hs ob Q q => by
  obtain ⟨p, dx, fs, e0, hp, hl⟩ := hC _ _ _ _ ob
  refine ⟨v0, hv, p, dx, fs, e0, (hs.kn.own _ (List.mem_append_right _ (List.mem_append_left _ hp))), hl, ?_⟩
  exact ha d O G1 H1 e hs ob _ (wpX_mono (wpX_bind q) (fun x d' q vs G2 O2 H2 e2 hs2 ob2 r =>
    ⟨without O2 H2, G2, O2, d', v0, x, hs2.sub, ob2, by rw [List.append_nil]; exact ⟨vs, rfl, r⟩, .mk (wpX_mono q (fun y d'' q v G3 O3 H3 hs3 ob3 r3 => q v G3 O3 H3 (e2.trans hs3.g0) (hs2.back2 hs3) ob3 r3) fun c fs d'' z G3 O3 H3 dd hs3 ob3 xd => z G3 O3 H3 dd (e2.trans hs3.g0) (hs2.back2 hs3) ob3 xd)⟩) fun _ _ _ z => z)
theorem y_methR {Sg : Rps β} {Ro : Rp ε} {ro : δ → ε} {t : TA} {i : Nat} {C : Addr} {mt : Str} {ma : δ → Xs β δ} {h : ε × β → Res α} (obm : Obm Ob) (hC : ObjM C Ob mt) (L : Lends K Ob Ro ro) (sc : Sc R) (hv : σ[i]? = some (some v0)) (ha : EvXA K fm σ G La Lb Ob v0 t Sg ma) :
    EvX K fm σ G La Lb Ob v0 (tMeth C mt (spP K fm.cl (rsC Ro Sg) R h) [] fm.E (tVar i) t) R (readX ma fun d a => h (ro d, a)) := fun d O G1 H1 e hs ob Q q => by
  obtain ⟨p, dx, fs, e0, hp, hl⟩ := hC _ _ _ _ ob
  refine ⟨v0, hv, p, dx, fs, e0, (hs.kn.own _ (List.mem_append_right _ (List.mem_append_left _ hp))), hl, ?_⟩
  refine ha d O G1 H1 e hs ob _ (wpX_mono (wpX_bind q) (fun x d' q vs G2 O2 H2 e2 hs2 ob2 r => ?_) fun _ _ _ z => z)
  obtain ⟨Gl, e3, e4, rr⟩ := L fm d' v0 G2 O2 _ H2 hs2.kn (fun p hp => List.mem_append_right _ (List.mem_append_left _ hp)) ob2
  exact ⟨Gl, (ro d', x), e4, by rw [List.append_nil]; exact ⟨v0, vs, rfl, rr, Sg.mono e3 r⟩, .mk (Res.wp_mono (wpX_pureC q) (fun y q v G3 H3 s r3 => q v G2 O2 H3 e2 (hs2.stp (Stp.grow hs2.gh s.hh)) ob2 (sc _ _ _ _ _ r3)) fun c fs z H' dd a b => z G2 O2 H' dd e2 (hs2.stp (Stp.grow hs2.gh a)) ob2 b)⟩
/-! operators -/
theorem y_op1 {Dv : V → TE} {h : α → Res γ} (obm : Obm Ob) (ha : EvX K fm σ G La Lb Ob v0 ta R f) (hp : ∀ F v x G' O, Same G G' → R.r K G' v x → EvE K (fmH fm F) (Dv v) σ G' O T (h x)) (hC : ∀ H Q, (ta σ H fun v H1 => Dv v σ H1 Q) → te σ H Q) :
    EvX K fm σ G La Lb Ob v0 te T (mapX f h) := fun d O G1 H1 e hs ob Q q => hC _ _ <|
  ha d O G1 H1 e hs ob _ (wpX_mono (wpX_bind q) (fun x d' q v G2 O2 H2 e2 hs2 ob2 r =>
    hp H2 v x G2 (La ++ (O2 ++ Lb)) (e.trans e2) r G2 H2 (Same.refl _) ⟨Same.refl _, hs2.gh, fun p hp => (hs2.own p hp).1⟩ Q (Res.wp_mono (wpX_pureC q) (fun y q v G3 H3 s r3 => q v G3 O2 H3 (e2.trans s.gg) (hs2.stp s) (obm _ _ _ _ _ s.gg ob2) r3) fun c fs z H' dd a b => z G2 O2 H' dd e2 (hs2.stp (Stp.grow hs2.gh a)) ob2 b)) fun _ _ _ z => z)
theorem y_op2 {Dv : V → V → TE} {h : α → β → Res γ} (obm : Obm Ob) (ha : EvX K fm σ G La Lb Ob v0 ta R f) (hb : EvX K fm σ G La Lb Ob v0 tb S g) (hp : ∀ F v w x y G' O, Same G G' → R.r K G' v x → S.r K G' w y → EvE K (fmH fm F) (Dv v w) σ G' O T (h x y))
    (hC : ∀ H Q, (ta σ H fun v H1 => tb σ H1 fun w H2 => Dv v w σ H2 Q) → te σ H Q) : EvX K fm σ G La Lb Ob v0 te T (map2X f g h) := fun d O G1 H1 e hs ob Q q => hC _ _ <|
  ha d O G1 H1 e hs ob _ (wpX_mono (wpX_bind q) (fun x d' q v G2 O2 H2 e2 hs2 ob2 r =>
    hb d' O2 G2 H2 (e.trans e2) hs2 ob2 _ (wpX_mono (wpX_bind q) (fun y d'' q w G3 O3 H3 e3 hs3 ob3 r' =>
      hp H3 v w x y G3 (La ++ (O3 ++ Lb)) ((e.trans e2).trans e3) (R.mono e3 r) r' G3 H3 (Same.refl _) ⟨Same.refl _, hs3.gh, fun p hp => (hs3.own p hp).1⟩ Q (Res.wp_mono (wpX_pureC q) (fun z q v G4 H4 s r3 => q v G4 O3 H4 ((e2.trans e3).trans s.gg) (hs3.stp s) (obm _ _ _ _ _ s.gg ob3) r3) fun c fs z H' dd a b => z G3 O3 H' dd (e2.trans e3) (hs3.stp (Stp.grow hs3.gh a)) ob3 b)) fun _ _ _ z => ExK.mono e2 z)) fun _ _ _ z => z)
theorem y_ite {c : TT} {mc : δ → Xs Bool δ} {g : δ → Xs α δ} (hc : EvXT fm σ G La Lb Ob v0 c mc) (ha : EvX K fm σ G La Lb Ob v0 ta R f) (hb : EvX K fm σ G La Lb Ob v0 tb R g) : EvX K fm σ G La Lb Ob v0 (tIf c ta tb) R (iteX mc f g) := fun d O G1 H1 e hs ob Q q =>
  hc d O G1 H1 e hs ob _ (wpX_mono (wpX_bind q) (fun b d2 q G2 O2 H2 e2 hs2 ob2 => by
    cases b with
    | true => exact ha d2 O2 G2 H2 (e.trans e2) hs2 ob2 Q (wpX_mono q (fun y d3 q v G3 O3 H3 e3 => q v G3 O3 H3 (e2.trans e3)) fun _ _ _ z => ExK.mono e2 z)
    | false => exact hb d2 O2 G2 H2 (e.trans e2) hs2 ob2 Q (wpX_mono q (fun y d3 q v G3 O3 H3 e3 => q v G3 O3 H3 (e2.trans e3)) fun _ _ _ z => ExK.mono e2 z)) fun _ _ _ z => z)
/-! tests -/
theorem yt_val {f : δ → Xs Bool δ} (h : EvX K fm σ G La Lb Ob v0 te rB f) : EvXT fm σ G La Lb Ob v0 (tB te) f := fun d O G1 H1 e hs ob Q q =>
  h d O G1 H1 e hs ob _ (wpX_mono q (fun x d' q v G2 O2 H2 e2 hs2 ob2 r => ⟨x, r, q G2 O2 H2 e2 hs2 ob2⟩) fun _ _ _ z => z)
theorem yt_test {f : δ → Xs Bool δ} (h : EvX K fm σ G La Lb Ob v0 te rB f) : EvXT fm σ G La Lb Ob v0 (tTest te) f := yt_val h
theorem yt_not {t : TT} {f : δ → Xs Bool δ} (h : EvXT fm σ G La Lb Ob v0 t f) : EvXT fm σ G La Lb Ob v0 (tNot t) (mapX f fun b => .ok (!b)) := fun d O G1 H1 e hs ob Q q =>
  h d O G1 H1 e hs ob _ (wpX_mono (wpX_bind q) (fun x d' q G2 O2 H2 e2 hs2 ob2 => q G2 O2 H2 e2 hs2 ob2) fun _ _ _ z => z)
theorem yt_and {t u : TT} {f g : δ → Xs Bool δ} (h : EvXT fm σ G La Lb Ob v0 t f) (h' : EvXT fm σ G La Lb Ob v0 u g) : EvXT fm σ G La Lb Ob v0 (tAnd t u) (andX f g) := fun d O G1 H1 e hs ob Q q =>
  h d O G1 H1 e hs ob _ (wpX_mono (wpX_bind q) (fun b d2 q G2 O2 H2 e2 hs2 ob2 => by
    cases b with
    | true => exact h' d2 O2 G2 H2 (e.trans e2) hs2 ob2 Q (wpX_mono q (fun y d3 q G3 O3 H3 e3 => q G3 O3 H3 (e2.trans e3)) fun _ _ _ z => ExK.mono e2 z)
    | false => exact q G2 O2 H2 e2 hs2 ob2) fun _ _ _ z => z)
theorem yt_or {t u : TT} {f g : δ → Xs Bool δ} (h : EvXT fm σ G La Lb Ob v0 t f) (h' : EvXT fm σ G La Lb Ob v0 u g) : EvXT fm σ G La Lb Ob v0 (tOr t u) (orX f g) := fun d O G1 H1 e hs ob Q q =>
  h d O G1 H1 e hs ob _ (wpX_mono (wpX_bind q) (fun b d2 q G2 O2 H2 e2 hs2 ob2 => by
    cases b with
    | false => exact h' d2 O2 G2 H2 (e.trans e2) hs2 ob2 Q (wpX_mono q (fun y d3 q G3 O3 H3 e3 => q G3 O3 H3 (e2.trans e3)) fun _ _ _ z => ExK.mono e2 z)
    | true => exact q G2 O2 H2 e2 hs2 ob2) fun _ _ _ z => z)
theorem y_and {f g : δ → Xs Bool δ} (h : EvX K fm σ G La Lb Ob v0 ta rB f) (h' : EvX K fm σ G La Lb Ob v0 tb rB g) : EvX K fm σ G La Lb Ob v0 (tAndV ta tb) rB (andX f g) := fun d O G1 H1 e hs ob Q q =>
  h d O G1 H1 e hs ob _ (wpX_mono (wpX_bind q) (fun b d2 q v G2 O2 H2 e2 hs2 ob2 r => ⟨b, r, by
    cases b with
    | true => exact h' d2 O2 G2 H2 (e.trans e2) hs2 ob2 Q (wpX_mono q (fun y d3 q v G3 O3 H3 e3 => q v G3 O3 H3 (e2.trans e3)) fun _ _ _ z => ExK.mono e2 z)
    | false => exact q _ G2 O2 H2 e2 hs2 ob2 rfl⟩) fun _ _ _ z => z)
theorem y_or {f g : δ → Xs Bool δ} (h : EvX K fm σ G La Lb Ob v0 ta rB f) (h' : EvX K fm σ G La Lb Ob v0 tb rB g) : EvX K fm σ G La Lb Ob v0 (tOrV ta tb) rB (orX f g) := fun d O G1 H1 e hs ob Q q =>
  h d O G1 H1 e hs ob _ (wpX_mono (wpX_bind q) (fun b d2 q v G2 O2 H2 e2 hs2 ob2 r => ⟨b, r, by
    cases b with
    | false => exact h' d2 O2 G2 H2 (e.trans e2) hs2 ob2 Q (wpX_mono q (fun y d3 q v G3 O3 H3 e3 => q v G3 O3 H3 (e2.trans e3)) fun _ _ _ z => ExK.mono e2 z)
    | true => exact q _ G2 O2 H2 e2 hs2 ob2 rfl⟩) fun _ _ _ z => z)
/-! statements; hx: how an exception leaves -/
variable {ex : Nat → List (Str × V) → δ → Res ρ}
abbrev HX (fm : Fm) (La Lb : Own) (Ob : δ → V → Hp → Own → Prop) (v0 : V) (G : Hp) (ex : Nat → List (Str × V) → δ → Res ρ) (Q : ρ → Prop) : Prop := ∀ c fs d', Wp (ex c fs d') Q fm.xw → ExK fm La Lb Ob v0 G c fs d'
theorem w_asgY {g : TG} {Ss : Rps α} {is : List Nat} {mk : α → δ → Res ρ} (tg : Tgt K g R Ss is) (he : EvX K fm σ G La Lb Ob v0 te R f) (hs : Hs fm G (La ++ (O ++ Lb)) H) (ob : Ob d v0 G O) (hx : HX fm La Lb Ob v0 G ex Q) (hm : Wp (bindK (f d) ex mk) Q fm.xw)
    (k : ∀ x d' vs G' O' H', Same G G' → Hs fm G' (La ++ (O' ++ Lb)) H' → Ob d' v0 G' O' → Ss.r K G' vs x → Wp (mk x d') Q fm.xw → tr D (setL σ is vs) H') : tSeq (tAsg te g) tr D σ H :=
  he d O G H (Same.refl _) hs ob _ (wpX_mono (wpX_K hm) (fun x d' q v G2 O2 H2 e2 hs2 ob2 r => tg G2 H2 v x σ _ hs2.gh r fun vs rv => k x d' vs G2 O2 H2 e2 hs2 ob2 rv q) fun c fs d' z => hx c fs d' z)
theorem w_dropY {mk : α → δ → Res ρ} (he : EvX K fm σ G La Lb Ob v0 te R f) (hs : Hs fm G (La ++ (O ++ Lb)) H) (ob : Ob d v0 G O) (hx : HX fm La Lb Ob v0 G ex Q) (hm : Wp (bindK (f d) ex mk) Q fm.xw)
    (k : ∀ x d' G' O' H', Same G G' → Hs fm G' (La ++ (O' ++ Lb)) H' → Ob d' v0 G' O' → Wp (mk x d') Q fm.xw → tr D σ H') : tSeq (tDrop te) tr D σ H :=
  he d O G H (Same.refl _) hs ob _ (wpX_mono (wpX_K hm) (fun x d' q v G2 O2 H2 e2 hs2 ob2 r => k x d' G2 O2 H2 e2 hs2 ob2 q) fun c fs d' z => hx c fs d' z)
theorem w_retY {kr : α → δ → ρ} (he : EvX K fm σ G La Lb Ob v0 te R f) (hs : Hs fm G (La ++ (O ++ Lb)) H) (ob : Ob d v0 G O) (hx : HX fm La Lb Ob v0 G ex Q) (hm : Wp (bindK (f d) ex fun r d => .ok (kr r d)) Q fm.xw)
    (k : ∀ x d' v G' O' H', Same G G' → Hs fm G' (La ++ (O' ++ Lb)) H' → Ob d' v0 G' O' → R.r K G' v x → Q (kr x d') → D.rt v H') : tSeq (tRet te) tr D σ H :=
  he d O G H (Same.refl _) hs ob _ (wpX_mono (wpX_K hm) (fun x d' q v G2 O2 H2 e2 hs2 ob2 r => k x d' v G2 O2 H2 e2 hs2 ob2 r q.out) fun c fs d' z => hx c fs d' z)
theorem w_ifY {c : TT} {mc : δ → Xs Bool δ} {a b : δ → Res ρ} (hc : EvXT fm σ G La Lb Ob v0 c mc) (hs : Hs fm G (La ++ (O ++ Lb)) H) (ob : Ob d v0 G O) (hx : HX fm La Lb Ob v0 G ex Q) (hm : Wp (bindK (mc d) ex fun x d => if x = true then a d else b d) Q fm.xw)
    (h1 : ∀ d' G' O' H', Same G G' → Hs fm G' (La ++ (O' ++ Lb)) H' → Ob d' v0 G' O' → Wp (a d') Q fm.xw → tt { D with nx := tr D } σ H') (h2 : ∀ d' G' O' H', Same G G' → Hs fm G' (La ++ (O' ++ Lb)) H' → Ob d' v0 G' O' → Wp (b d') Q fm.xw → tu { D with nx := tr D } σ H') : tSeq (tIfS c tt tu) tr D σ H :=
  hc d O G H (Same.refl _) hs ob _ (wpX_mono (wpX_K hm) (fun k d2 q G2 O2 H2 e2 hs2 ob2 => by
    cases k with
    | true => exact h1 d2 G2 O2 H2 e2 hs2 ob2 q
    | false => exact h2 d2 G2 O2 H2 e2 hs2 ob2 q) fun c fs d' z => hx c fs d' z)
/-- in a def whose exceptions tell the state -/
theorem hx_fn {R : Rp β} {Q : VK} : HX fm La Lb Ob v0 G (exX (α := β)) (QX K fm Ob v0 R Q) := fun c fs d' q G2 O2 H2 dd e hs ob xd => q.out G2 O2 H2 dd hs.only ob xd
/-- in a def that owns the object -/
theorem hx_own : HX fm La Lb Ob v0 G (fun c fs (_ : δ) => (.exc c fs : Res ρ)) Q := fun c fs d' q G2 O2 H2 dd e hs ob xd => q.out H2 dd hs.fr xd
theorem QX.ret {R : Rp β} {Q : VK} {x : β} {d' : δ} (h : QX K fm Ob v0 R Q (.ok x, d')) {v : V} {G2 : Hp} {O2 : Own} {H2 : Hp} (hs : Hs fm G2 (La ++ (O2 ++ Lb)) H2) (ob : Ob d' v0 G2 O2) (r : R.r K G2 v x) : Q v H2 := h v G2 O2 H2 hs.only ob r
/-! ### comprehensions whose items write -/
def lcX {α β δ : Type} (f : α → δ → Xs β δ) : List α → δ → Xs (List β) δ
  | [], d => .ok (.ok [], d)
  | x :: xs, d => bindK (f x d) (fun _ _ _ => .stuck) fun y d => bindX (lcX f xs d) fun ys d => .ok (.ok (y :: ys), d)
def lcBX {α β δ : Type} (f : α → δ → Xs β δ) (m : Res (List α)) : δ → Xs (List β) δ := fun d => match m with | .ok xs => if xs.length < lim then lcX f xs d else .stuck | .exc c fs => .ok (.exc c fs, d) | .stuck => .stuck
theorem wpX_S {α β δ : Type} {m : Xs α δ} {k : α → δ → Xs β δ} {Q E} (h : wpX (bindK m (fun _ _ _ => .stuck) k) Q E) : wpX m (fun a d => wpX (k a d) Q E) (fun _ _ _ => False) := by
  unfold wpX bindK at *
  cases m with
  | ok x =>
    obtain ⟨x, d⟩ := x
    cases x with
    | ok a => exact h
    | exc c fs => exact h
  | exc c fs => exact h.elim
  | stuck => exact h.elim
end
end Mw

namespace Mw
open PySem PySem.Spec PyProof.Rows L2
/-! ### loops in defs whose exceptions tell the object's state -/
structure YEnds {S ρ : Type} (fm : Fm) (G : Hp) (W : S → L2.St → Hp → Own → Prop) (RT : ρ → V → Hp → Own → Prop) (XP : ρ → Prop) (Qb : Tn S ρ → Prop) (D : Ends) : Prop where
  nx : ∀ s σ G1 G2 O H, Same G G2 → W s σ G1 O → Same G1 G2 → Hs fm G2 O H → Qb (.nx s) → D.nx σ H
  ct : ∀ s σ G1 G2 O H, Same G G2 → W s σ G1 O → Same G1 G2 → Hs fm G2 O H → Qb (.nx s) → D.ct σ H
  bk : ∀ s σ G1 G2 O H, Same G G2 → W s σ G1 O → Same G1 G2 → Hs fm G2 O H → Qb (.bk s) → D.bk σ H
  rt : ∀ r v G2 O H, Hs fm G2 O H → RT r v G2 O → Qb (.rt r) → D.rt v H
  xt : ∀ r, Qb (.rt r) → XP r
section
variable {α β γ δ ρ : Type} {K : PySem.W.Frag} {fm : Fm} {σ : L2.St} {G G' H H' : Hp} {O : Own}
variable {te ta tb tc : TE} {R : Rp α} {S : Rp β} {T : Rp γ} {m : Res α} {n : Res β}
variable {D : Ends} {tr tt tu tw : TS} {Q : ρ → Prop}
theorem s_forBY {Oi : Own} {S : Type} {Sr : Type} {ti : TI} {g : TG} {Ss : Rps α} {is : List Nat} {m : Res (List α)} {f : α → S → Res (Tn S Sr)} {mk : Lp S Sr → Res ρ} {s0 : S} (W : S → L2.St → Hp → Own → Prop) (RT : Sr → V → Hp → Own → Prop) (XP : Sr → Prop)
    (hi : EvI K fm ti σ G O Oi R m) (hO : ∀ s σ G O, W s σ G O → ∀ p ∈ Oi, p ∈ O) (tg : Tgt K g R Ss is) (hs : Hs fm G O H) (hm : ((m.bind fun xs => forB f xs s0).bind mk).wp Q fm.xw) (h0 : W s0 σ G O)
    (hb : ∀ x s σ' G1 G' O' H' vs (D' : Ends) (Qb : Tn S Sr → Prop), Same G G' → W s σ' G1 O' → Same G1 G' → Hs fm G' O' H' → Ss.r K G' vs x → YEnds fm G' W RT XP Qb D' → (f x s).wp Qb fm.xw → tw D' (setL σ' is vs) H')
    (hn : ∀ s σ' G1 G' O' H', Same G G' → W s σ' G1 O' → Same G1 G' → Hs fm G' O' H' → (mk (.nx s)).wp Q fm.xw → tr D σ' H')
    (hr : ∀ r v G2 O2 H2, Hs fm G2 O2 H2 → RT r v G2 O2 → (mk (.rt r)).wp Q fm.xw → D.rt v H2) (hxt : ∀ r, (mk (.rt r)).wp Q fm.xw → XP r) : tSeq (tFor ti g tw) tr D σ H := by
  refine hi G H (Same.refl _) hs.kn _ (Res.wp_mono (Res.wp_bind (Res.wp_bind hm)) (fun xs q J G2 H2 s it => ?_) fun _ _ z => z)
  refine ⟨fun i mm σ' H' => mm = xs.length - i ∧ i ≤ xs.length ∧ ∃ s' G1 G' O', Same G2 G' ∧ W s' σ' G1 O' ∧ Same G1 G' ∧ Hs fm G' O' H' ∧ ((forB f (xs.drop i) s').bind mk).wp Q fm.xw,
    ⟨xs.length, by simp, Nat.zero_le _, s0, G, G2, O, Same.refl _, h0, s.gg, hs.stp s, by
      rw [List.drop_zero]
      cases hx : forB f xs s0 with
      | ok a => rw [hx] at q; exact q
      | exc c fs => rw [hx] at q; exact q
      | stuck => rw [hx] at q; exact q⟩, ?_⟩
  rintro i mm σ' H' ⟨rfl, hle, s', G1, G', O', g2, w, g1, hs', q'⟩
  by_cases hlt : i < xs.length
  · refine .inr ⟨it.go i G' H' g2 hs'.gh (fun p hp => (hs'.own p (hO _ _ _ _ w p hp)).1) hlt, _, fun σ2 H2 z => ⟨xs.length - (i + 1), by omega, z⟩, fun v H3 y => ?_⟩
    obtain ⟨x, G4, hx, s4, rx⟩ := it.yld i G' H' v H3 g2 hs'.gh (fun p hp => (hs'.own p (hO _ _ _ _ w p hp)).1) hlt y
    have hdrop : xs.drop i = x :: xs.drop (i + 1) := by
      obtain ⟨h1, h2⟩ := List.getElem?_eq_some_iff.mp hx
      rw [List.drop_eq_getElem_cons h1, h2]
    rw [hdrop] at q'
    refine tg G4 H3 v x _ _ s4.gh rx fun vs rvs => ?_
    refine hb x s' σ' G1 G4 O' H3 vs _ (fun t => ((match t with | .nx s' => forB f (xs.drop (i + 1)) s' | .bk s' => .ok (.nx s') | .rt r => .ok (.rt r)).bind mk).wp Q fm.xw) ((s.gg.trans g2).trans s4.gg) w (g1.trans s4.gg) (hs'.stp s4) rvs ⟨?_, ?_, ?_, ?_, fun r q => hxt r q⟩ (Res.wp_bind (by
      have := q'
      rw [forB] at this
      cases hx : f x s' with
      | ok a => rw [hx] at this; exact this
      | exc c fs => rw [hx] at this; exact this
      | stuck => rw [hx] at this; exact this))
    · exact fun s5 σ5 G5 G6 O5 H5 a b c d e => ⟨rfl, hlt, s5, G5, G6, O5, (g2.trans s4.gg).trans a, b, c, d, e⟩
    · exact fun s5 σ5 G5 G6 O5 H5 a b c d e => ⟨rfl, hlt, s5, G5, G6, O5, (g2.trans s4.gg).trans a, b, c, d, e⟩
    · exact fun s5 σ5 G5 G6 O5 H5 a b c d e => hn s5 σ5 G5 G6 O5 H5 (((s.gg.trans g2).trans s4.gg).trans a) b c d e
    · exact fun r v G5 O5 H5 a b c => hr r v G5 O5 H5 a b c
  · have ei : i = xs.length := by omega
    subst ei
    rw [List.drop_length] at q'
    exact .inl ⟨it.stop G' H' g2 hs'.gh (fun p hp => (hs'.own p (hO _ _ _ _ w p hp)).1), hn s' σ' G1 G' O' H' (s.gg.trans g2) w g1 hs' q'⟩
theorem s_whBY {S : Type} {Sr : Type} {c : TT} {mc : S → Res Bool} {f : S → Res (Tn S Sr)} {mk : Lp S Sr → Res ρ} {s0 : S} {fuel : Nat} (W : S → L2.St → Hp → Own → Prop) (RT : Sr → V → Hp → Own → Prop) (XP : Sr → Prop)
    (hs : Hs fm G O H) (hm : ((whB mc f fuel s0).bind mk).wp Q fm.xw) (h0 : W s0 σ G O)
    (hc : ∀ s σ' G1 G' O', Same G G' → W s σ' G1 O' → Same G1 G' → EvT fm c σ' G' O' (mc s))
    (hb : ∀ s σ' G1 G' O' H' (D' : Ends) (Qb : Tn S Sr → Prop), Same G G' → W s σ' G1 O' → Same G1 G' → Hs fm G' O' H' → YEnds fm G' W RT XP Qb D' → (f s).wp Qb fm.xw → tw D' σ' H')
    (hn : ∀ s σ' G1 G' O' H', Same G G' → W s σ' G1 O' → Same G1 G' → Hs fm G' O' H' → (mk (.nx s)).wp Q fm.xw → tr D σ' H')
    (hr : ∀ r v G2 O2 H2, Hs fm G2 O2 H2 → RT r v G2 O2 → (mk (.rt r)).wp Q fm.xw → D.rt v H2) (hxt : ∀ r, (mk (.rt r)).wp Q fm.xw → XP r) : tSeq (tWhile c tw) tr D σ H := by
  refine ⟨fun mm σ' H' => ∃ s' G1 G' O', Same G G' ∧ W s' σ' G1 O' ∧ Same G1 G' ∧ Hs fm G' O' H' ∧ ((whB mc f mm s').bind mk).wp Q fm.xw, ⟨fuel, s0, G, G, O, Same.refl _, h0, Same.refl _, hs, hm⟩, ?_⟩
  rintro mm σ' H' ⟨s', G1, G', O', g, w, g1, hs', q'⟩
  cases mm with
  | zero => exact q'.elim
  | succ mm =>
    have q1 : (mc s').wp (fun b => ((if b = true then (f s').bind fun t => match t with | .nx s' => whB mc f mm s' | .bk s' => .ok (.nx s') | .rt r => .ok (.rt r) else .ok (.nx s')).bind mk).wp Q fm.xw) fm.xw := by
      rw [whB] at q'
      cases hx : mc s' with
      | ok a => rw [hx] at q'; exact q'
      | exc c fs => rw [hx] at q'; exact q'
      | stuck => rw [hx] at q'; exact q'
    refine hc s' σ' G1 G' O' g w g1 G' H' (Same.refl _) hs'.kn _ (Res.wp_mono q1 (fun b q2 G2 H2 s2 => ?_) fun _ _ z => z)
    cases b with
    | true =>
      refine iteT ⟨_, fun σ2 H2 z => ⟨mm, Nat.lt_succ_self _, z⟩, ?_⟩
      rw [if_pos rfl] at q2
      refine hb s' σ' G1 G2 O' H2 _ (fun t => ((match t with | .nx s' => whB mc f mm s' | .bk s' => .ok (.nx s') | .rt r => .ok (.rt r)).bind mk).wp Q fm.xw) (g.trans s2.gg) w (g1.trans s2.gg) (hs'.stp s2) ⟨?_, ?_, ?_, ?_, fun r q => hxt r q⟩ (Res.wp_bind (by
        cases hx : f s' with
        | ok a => rw [hx] at q2; exact q2
        | exc c fs => rw [hx] at q2; exact q2
        | stuck => rw [hx] at q2; exact q2))
      · exact fun s5 σ5 G5 G6 O5 H5 a b c d e => ⟨s5, G5, G6, O5, (g.trans s2.gg).trans a, b, c, d, e⟩
      · exact fun s5 σ5 G5 G6 O5 H5 a b c d e => ⟨s5, G5, G6, O5, (g.trans s2.gg).trans a, b, c, d, e⟩
      · exact fun s5 σ5 G5 G6 O5 H5 a b c d e => hn s5 σ5 G5 G6 O5 H5 ((g.trans s2.gg).trans a) b c d e
      · exact fun r v G5 O5 H5 a b c => hr r v G5 O5 H5 a b c
    | false =>
      refine iteF ?_
      rw [if_neg Bool.false_ne_true] at q2
      exact hn s' σ' G1 G2 O' H2 (g.trans s2.gg) w (g1.trans s2.gg) (hs'.stp s2) q2
theorem w_forBY {Oi : Own} {S : Type} {Sr : Type} {ti : TI} {g : TG} {Ss : Rps α} {is : List Nat} {m : Res (List α)} {f : α → S → Res (Tn S Sr)} {N : S → Res ρ} {Rt : Sr → Res ρ} {s0 : S} (W : S → L2.St → Hp → Own → Prop) (RT : Sr → V → Hp → Own → Prop) (XP : Sr → Prop)
    (hi : EvI K fm ti σ G O Oi R m) (hO : ∀ s σ G O, W s σ G O → ∀ p ∈ Oi, p ∈ O) (tg : Tgt K g R Ss is) (hs : Hs fm G O H) (hm : Wp ((m.bind fun xs => forB f xs s0).bind (Lp.el N Rt)) Q fm.xw) (h0 : W s0 σ G O)
    (hr : ∀ r v G2 O2 H2, Hs fm G2 O2 H2 → RT r v G2 O2 → (Rt r).wp Q fm.xw → D.rt v H2) (hxt : ∀ r, (Rt r).wp Q fm.xw → XP r)
    (hb : ∀ x s σ' G1 G' O' H' vs (D' : Ends) (Qb : Tn S Sr → Prop), Same G G' → W s σ' G1 O' → Same G1 G' → Hs fm G' O' H' → Ss.r K G' vs x → YEnds fm G' W RT XP Qb D' → Wp (f x s) Qb fm.xw → tw D' (setL σ' is vs) H')
    (hn : ∀ s σ' G1 G' O' H', Same G G' → W s σ' G1 O' → Same G1 G' → Hs fm G' O' H' → Wp (N s) Q fm.xw → tr D σ' H') : tSeq (tFor ti g tw) tr D σ H :=
  s_forBY W RT XP hi hO tg hs hm.out h0 (fun x s σ' G1 G' O' H' vs D' Qb a b c d e f g => hb x s σ' G1 G' O' H' vs D' Qb a b c d e f (.mk g)) (fun s σ' G1 G' O' H' a b c d e => hn s σ' G1 G' O' H' a b c d (.mk e)) hr hxt
theorem w_whBY {S : Type} {Sr : Type} {c : TT} {mc : S → Res Bool} {f : S → Res (Tn S Sr)} {N : S → Res ρ} {Rt : Sr → Res ρ} {s0 : S} {fuel : Nat} (W : S → L2.St → Hp → Own → Prop) (RT : Sr → V → Hp → Own → Prop) (XP : Sr → Prop)
    (hs : Hs fm G O H) (hm : Wp ((whB mc f fuel s0).bind (Lp.el N Rt)) Q fm.xw) (h0 : W s0 σ G O)
    (hr : ∀ r v G2 O2 H2, Hs fm G2 O2 H2 → RT r v G2 O2 → (Rt r).wp Q fm.xw → D.rt v H2) (hxt : ∀ r, (Rt r).wp Q fm.xw → XP r)
    (hc : ∀ s σ' G1 G' O', Same G G' → W s σ' G1 O' → Same G1 G' → EvT fm c σ' G' O' (mc s))
    (hb : ∀ s σ' G1 G' O' H' (D' : Ends) (Qb : Tn S Sr → Prop), Same G G' → W s σ' G1 O' → Same G1 G' → Hs fm G' O' H' → YEnds fm G' W RT XP Qb D' → Wp (f s) Qb fm.xw → tw D' σ' H')
    (hn : ∀ s σ' G1 G' O' H', Same G G' → W s σ' G1 O' → Same G1 G' → Hs fm G' O' H' → Wp (N s) Q fm.xw → tr D σ' H') : tSeq (tWhile c tw) tr D σ H :=
  s_whBY W RT XP hs hm.out h0 hc (fun s σ' G1 G' O' H' D' Qb a b c d e f => hb s σ' G1 G' O' H' D' Qb a b c d e (.mk f)) (fun s σ' G1 G' O' H' a b c d e => hn s σ' G1 G' O' H' a b c d (.mk e)) hr hxt
end
/-! what a return in a loop tells, what an exception does -/
def RTX {β δ : Type} (K : PySem.W.Frag) (Ob : δ → V → Hp → Own → Prop) (v0 : V) (R : Rp β) : Xr β × δ → V → Hp → Own → Prop := fun r v G O => ∃ a, r.1 = .ok a ∧ Ob r.2 v0 G O ∧ R.r K G v a
def XPX {β δ : Type} (fm : Fm) (Ob : δ → V → Hp → Own → Prop) (v0 : V) : Xr β × δ → Prop := fun r => match r.1 with | .ok _ => True | .exc c fs => exitX fm Ob v0 c fs r.2
section
variable {α β γ δ ρ S : Type} {K : PySem.W.Frag} {fm : Fm} {σ : L2.St} {G G' H H' : Hp} {O La Lb : Own} {Ob : δ → V → Hp → Own → Prop} {v0 : V} {d : δ}
variable {te ta tb tc : TE} {R : Rp α} {T : Rp γ} {D : Ends} {tr tt tu tw : TS} {Q : ρ → Prop}
theorem rtx_fn {R : Rp β} {Q : VK} : ∀ (r : Xr β × δ) v G2 O2 H2, Hs fm G2 O2 H2 → RTX K Ob v0 R r v G2 O2 → Res.wp (.ok r) (QX K fm Ob v0 R Q) fm.xw → Q v H2 := fun r v G2 O2 H2 hs ⟨a, e, ob, rr⟩ q => by
  obtain ⟨x, d⟩ := r
  cases e
  exact q v G2 O2 H2 hs ob rr
theorem xpx_fn {R : Rp β} {Q : VK} : ∀ (r : Xr β × δ), Res.wp (.ok r) (QX K fm Ob v0 R Q) fm.xw → XPX fm Ob v0 r := fun r q => by
  obtain ⟨x, d⟩ := r
  cases x with
  | ok a => exact True.intro
  | exc c fs => exact q
/-- an exception in a loop -/
def exT {S α δ : Type} : Nat → List (Str × V) → δ → Res (Tn S (Xr α × δ)) := fun c fs d => .ok (.rt (.exc c fs, d))
theorem hx_loop {W : S → L2.St → Hp → Own → Prop} {RT : Xr β × δ → V → Hp → Own → Prop} {Qb : Tn S (Xr β × δ) → Prop} {D' : Ends} {G1 : Hp} (E : YEnds fm G W RT (XPX fm Ob v0) Qb D') : HX fm La Lb Ob v0 G1 (exT (S := S) (α := β)) Qb := fun c fs d' q G2 O2 H2 dd e hs ob xd => E.xt (.exc c fs, d') q.out G2 O2 H2 dd hs.only ob xd
theorem perm_last (La O Lb : Own) (x : Addr × HO) : (La ++ (O ++ (Lb ++ [x]))).Perm (x :: (La ++ (O ++ Lb))) := by
  have : La ++ (O ++ (Lb ++ [x])) = (La ++ (O ++ Lb)) ++ [x] := by simp [List.append_assoc]
  rw [this]
  exact List.perm_append_singleton _ _
/-- [e for x in xs], e writes the object -/
theorem y_lc0 {ti : TI} {g : TG} {ws is : List Nat} {m : Res (List α)} {Ss : Rps α} {Se : Rp β} {f : α → δ → Xs β δ} (obm : Obm Ob)
    (hi : ∀ F O, EvI K (fmH fm F) ti σ G (La ++ (O ++ Lb)) [] R m) (tg : Tgt K g R Ss is) (hw : ∀ i ∈ is, i ∈ ws)
    (hb : ∀ x vs G' Lb', Same G G' → Ss.r K G' vs x → EvX K fm.e0 (setL (wipe σ ws) is vs) G' La Lb' Ob v0 te Se (f x)) :
    EvX K fm σ G La Lb Ob v0 (tLc ti g (fun _ H Q => Q true H) te ws) (rK Se) (lcBX f m) := fun d O G1 H1 e hs ob Q q => by
  have key : ∀ xs, m = .ok xs → wpX (if xs.length < lim then lcX f xs d else .stuck) (fun x d' => ∀ v G2 O2 H2, Same G1 G2 → Hs fm G2 (La ++ (O2 ++ Lb)) H2 → Ob d' v0 G2 O2 → (rK Se).r K G2 v x → Q v H2) (ExK fm La Lb Ob v0 G1) := fun xs em => by
    have q := q
    unfold lcBX at q
    rw [em] at q
    exact q
  refine hi H1 O G1 H1 e ⟨Same.refl _, hs.gh, fun p hp => (hs.own p hp).1⟩ _ ?_
  cases em : m with
  | stuck => rw [show lcBX f m d = .stuck by unfold lcBX; rw [em]] at q; exact q
  | exc c fs =>
    rw [show lcBX f m d = .ok (.exc c fs, d) by unfold lcBX; rw [em]] at q
    exact fun H' dd a b => q G1 O H' dd (Same.refl _) (hs.stp (Stp.grow hs.gh a)) ob b
  | ok xs =>
    intro J G2 H2 s it Dl hD
    have q := key xs em
    by_cases hl : xs.length < lim
    · rw [if_pos hl] at q
      have hs2 := hs.stp s
      have hsD : Hs fm G2 (La ++ (O ++ (Lb ++ [(Dl, .lst [])]))) (upd H2 Dl (.lst [])) := (hs2.new (Stp.grow hs2.gh (same_new hD)) hD (same_back hs2.gh hD) upd_same).perm (perm_last _ _ _ _)
      refine ⟨fun i mm H => mm = xs.length - i ∧ i ≤ xs.length ∧ ∃ (G3 : Hp) (acc : List V) (ys : List β) (d3 : δ) (O3 : Own), Same G2 G3 ∧ Hs fm G3 (La ++ (O3 ++ (Lb ++ [(Dl, .lst acc)]))) H ∧ Ob d3 v0 G3 O3 ∧ acc.length ≤ i ∧ RLs Se K G3 acc ys ∧
          wpX (lcX f (xs.drop i) d3) (fun zs d' => ∀ v G4 O4 H4, Same G1 G4 → Hs fm G4 (La ++ (O4 ++ Lb)) H4 → Ob d' v0 G4 O4 → (rK Se).r K G4 v (ys ++ zs) → Q v H4) (fun _ _ _ => True),
        ⟨xs.length, by simp, Nat.zero_le _, G2, [], [], d, O, Same.refl _, hsD, obm _ _ _ _ _ s.gg ob, Nat.le_refl _, .nil, wpX_mono q (fun _ _ z => z) fun _ _ _ _ => True.intro⟩, ?_⟩
      rintro i mm H ⟨rfl, hle, G3, acc, ys, d3, O3, g3, hs3, ob3, hacc, racc, q3⟩
      by_cases hlt : i < xs.length
      · refine .inr ⟨it.go i G3 H g3 hs3.gh (fun p hp => nomatch hp) hlt, _, fun H' z => ⟨xs.length - (i + 1), by omega, z⟩, fun v H' y => ?_⟩
        obtain ⟨x, G4, hx, s4, rx⟩ := it.yld i G3 H v H' g3 hs3.gh (fun p hp => nomatch hp) hlt y
        have hdrop : xs.drop i = x :: xs.drop (i + 1) := by
          obtain ⟨h1, h2⟩ := List.getElem?_eq_some_iff.mp hx
          rw [List.drop_eq_getElem_cons h1, h2]
        rw [hdrop] at q3
        refine tg G4 H' v x _ _ s4.gh rx fun vs rvs => ⟨by rw [wipe_setL hw, wipe_wipe fun i h => h], ?_⟩
        refine iteT ?_
        have hs4 := hs3.stp s4
        have he := hb x vs G4 (Lb ++ [(Dl, .lst acc)]) ((e.trans s.gg).trans (g3.trans s4.gg)) rvs
        refine he d3 O3 G4 H' (Same.refl _) hs4.withE (obm _ _ _ _ _ s4.gg ob3) _ (wpX_mono (wpX_S q3) (fun y' d6 q6 v' G6 O6 H6 e6 hs6 ob6 r6 => ?_) fun _ _ _ z => z.elim)
        have hs6' : Hs fm G6 (La ++ (O6 ++ (Lb ++ [(Dl, .lst acc)]))) H6 := hs6.withE (E' := fm.E)
        have hp := hs6'.perm (perm_last La O6 Lb (Dl, .lst acc)).symm
        have hset := (hp.set 0 (a := Dl) (o := .lst acc) (o' := .lst (acc ++ [v'])) rfl).perm (perm_last La O6 Lb (Dl, .lst (acc ++ [v'])))
        refine ⟨acc, (hp.at 0 rfl).1, by rw [← lim_eq]; omega, rfl, hlt, G6, acc ++ [v'], ys ++ [y'], d6, O6, g3.trans (s4.gg.trans e6), hset, ob6, by rw [List.length_append, List.length_singleton]; omega, paired_app (racc.mono (s4.gg.trans e6)) (.cons r6 .nil), ?_⟩
        exact wpX_mono (wpX_bind q6) (fun zs d7 q7 w G7 O7 H7 a b c r => q7 w G7 O7 H7 a b c (by rw [List.append_assoc] at r; exact r)) fun _ _ _ z => z
      · have ei : i = xs.length := by omega
        subst ei
        rw [List.drop_length] at q3
        have hp := hs3.perm (perm_last La O3 Lb (Dl, .lst acc)).symm
        have hg := hp.give 0 rfl
        have gD : G3 Dl = none := (hp.at 0 rfl).2.1
        have e3 : Same G3 (upd G3 Dl (.lst acc)) := same_new gD
        exact .inl ⟨it.stop G3 H g3 hs3.gh (fun p hp => nomatch hp), q3 (.ref Dl) (upd G3 Dl (.lst acc)) O3 H ((s.gg.trans g3).trans e3) hg (obm _ _ _ _ _ e3 ob3) ⟨Dl, acc, rfl, upd_same, by rw [List.append_nil]; exact racc.mono e3⟩⟩
    · rw [if_neg hl] at q
      exact q.elim

/-- The list display whose elements may raise, in the kit's own spelling of the condition. -/
theorem y_lc {ti : TI} {g : TG} {ws is : List Nat} {m : Res (List α)} {Ss : Rps α} {Se : Rp β} {f : α → δ → Xs β δ} (obm : Obm Ob)
    (hi : ∀ F O, EvI K (fmH fm F) ti σ G (La ++ (O ++ Lb)) [] R m) (tg : Tgt K g R Ss is) (hw : ∀ i ∈ is, i ∈ ws)
    (hb : ∀ x vs G' Lb', Same G G' → Ss.r K G' vs x → EvX K fm.e0 (setL (wipe σ ws) is vs) G' La Lb' Ob v0 te Se (f x)) :
    EvX K fm σ G La Lb Ob v0 (tLc ti g tYes te ws) (rK Se) (lcBX f m) := y_lc0 obm hi tg hw hb

end
end Mw

namespace Mw
open PySem PySem.Spec PyProof.Rows L2
/-! ### try .. except C as e: any suite, told by the class that is caught -/
noncomputable def tSuG (cl : Nat → Addr) (n : Nat) (th : Addr → Addr → TS) (a : Addr) (cls : Value) (d : Option Addr) : TS := by
  classical exact if h : d = none ∧ ∃ k, k < n ∧ cls = .ref (cl k) then th a (cl h.2.choose) else tNever
theorem tSuG_eq {cl : Nat → Addr} {n : Nat} {th : Addr → Addr → TS} {a : Addr} {k : Nat} (hk : k < n) : tSuG cl n th a (.ref (cl k)) none = th a (cl k) := by
  unfold tSuG
  have h : (none : Option Addr) = none ∧ ∃ j, j < n ∧ Value.ref (cl k) = .ref (cl j) := ⟨rfl, k, hk, rfl⟩
  rw [dif_pos h]
  have e := h.2.choose_spec.2
  injection e with e
  rw [← e]
theorem tSuG_ok {X : Cx} {cl : Nat → Addr} {n : Nat} {th : Addr → Addr → TS} {sts : List Stmt} (hd : ∀ (a : Addr) (oe : Obj) (C : Addr) (pn : List (Addr × Obj)), ExcC X.K C → Zc (.ref C) none oe → (∃ vs, oe.data = .fields vs) → PSs (X.suite a ((a, oe) :: pn)) sts (th a C)) (hec : ∀ k, k < n → ExcC X.K (cl k))
    (a : Addr) (oe : Obj) (cls : Value) (d : Option Addr) (pn : List (Addr × Obj)) (hz : Zc cls d oe) (hf : ∃ vs, oe.data = .fields vs) : PSs (X.suite a ((a, oe) :: pn)) sts (tSuG cl n th a cls d) := by
  classical
  unfold tSuG
  split
  · rename_i h
    obtain ⟨hk, e⟩ := h.2.choose_spec
    obtain ⟨rfl, _⟩ := h
    exact hd a oe _ pn (hec _ hk) (by rw [← e]; exact hz) hf
  · exact pss_never
/-- by the class of what was raised -/
def errK {δ ρ : Type} (n : Nat) (f : Nat → δ → Res ρ) (c : Nat) (fs : List (Str × V)) (d : δ) : Res ρ := if c < n ∧ fs = [] then f c d else .stuck
section
variable {α β γ δ ε ρ α' : Type} {K : PySem.W.Frag} {fm : Fm} {σ : L2.St} {G G' H H' : Hp} {O O' La Lb : Own} {Ob : δ → V → Hp → Own → Prop} {v0 : V} {d : δ}
variable {te ta tb tc : TE} {R : Rp α} {S : Rp β} {T : Rp γ} {D : Ends} {tr tt tu tw : TS} {Q : ρ → Prop}
/-- isinstance(e, C) of what was caught -/
theorem e_isE {i : Nat} {a C : Addr} {c : Addr} {b : Bool} (hx : σ[i]? = some (some (.ref a))) (hk : PySem.W.kitOne K (.ref C) (.ref c) = some b) : EvE K fm (tCB (rIsE K C a) (tCons (tVar i) (tCons (tC (.ref c)) tNil))) σ G O rB (.ok b) := fun G1 H1 e k Q q =>
  ⟨_, hx, .ref _, .ref _, b, rfl, fun u e => e, hk, q (.bl b) G1 H1 (Stp.refl k.gh) rfl⟩
theorem y_callS {S : V → Rps β} {t : TA} {ma : δ → Xs β δ} {h : δ → β → Xs α δ} {Ew : L2.St → XK} (hE : Ew σ = fm.E) (ha : EvXA K fm σ G La Lb Ob v0 t (S v0) ma) : EvX K fm σ G La Lb Ob v0 (tCallS (spX K fm.cl Ob S R h) Ew t) R (callX ma h) := fun d O G1 H1 e hs ob Q q =>
  ha d O G1 H1 e hs ob _ (wpX_mono (wpX_bind q) (fun x d' q vs G2 O2 H2 e2 hs2 ob2 r => by
    show spX K fm.cl Ob S R h vs H2 Q (Ew σ)
    rw [hE]
    exact ⟨without O2 H2, G2, O2, d', v0, x, hs2.sub, ob2, r, .mk (wpX_mono q (fun y d'' q v G3 O3 H3 hs3 ob3 r3 => q v G3 O3 H3 (e2.trans hs3.g0) (hs2.back2 hs3) ob3 r3) fun c fs d'' z G3 O3 H3 dd hs3 ob3 xd => z G3 O3 H3 dd (e2.trans hs3.g0) (hs2.back2 hs3) ob3 xd)⟩) fun _ _ _ z => z)
theorem y_callPS {S : Rps β} {t : TA} {ma : δ → Xs β δ} {h : β → Res α} {Ew : L2.St → XK} (obm : Obm Ob) (hE : Ew σ = fm.E) (ha : EvXA K fm σ G La Lb Ob v0 t S ma) : EvX K fm σ G La Lb Ob v0 (tCallS (spP K fm.cl S R h) Ew t) R (mapX ma h) := fun d O G1 H1 e hs ob Q q =>
  ha d O G1 H1 e hs ob _ (wpX_mono (wpX_bind q) (fun x d' q vs G2 O2 H2 e2 hs2 ob2 r => by
    show spP K fm.cl S R h vs H2 Q (Ew σ)
    rw [hE]
    exact ⟨G2, x, hs2.gh, r, .mk (Res.wp_mono (wpX_pureC q) (fun y q v G3 H3 s r3 => q v G3 O2 H3 (e2.trans s.gg) (hs2.stp s) (obm _ _ _ _ _ s.gg ob2) r3) fun c fs z H' dd a b => z G2 O2 H' dd e2 (hs2.stp (Stp.grow hs2.gh a)) ob2 b)⟩) fun _ _ _ z => z)
theorem w_tryY {tb : WX → TS} {Wout : WX} {c : Value} {i nn : Nat} {th : Addr → Addr → TS} {mb : Xs Unit δ} {hd : Nat → δ → Res ρ} {rest : δ → Res ρ}
    (hs : Hs fm G (La ++ (O ++ Lb)) H) (ob : Ob d v0 G O) (hm : Wp (bindK mb (errK nn hd) fun _ d => rest d) Q fm.xw)
    (hex : ∀ k, k < nn → PySem.W.exmOne K (.ref (fm.cl k)) c = some true)
    (hh : ∀ k a d' G' O' H', k < nn → Same G G' → Hs fm G' (La ++ (O' ++ Lb)) H' → Ob d' v0 G' O' → Wp (hd k d') Q fm.xw → th a (fm.cl k) { nx := fun σ' H' => tr D (σ'.set i none) H', rt := D.rt, bk := fun σ' H' => D.bk (σ'.set i none) H', ct := fun σ' H' => D.ct (σ'.set i none) H' } (σ.set i (some (.ref a))) H')
    (hb : ∀ (D' : Ends) (Qb : Xr Unit × δ → Prop) (W : WX), (∀ d' G' O' H', Same G G' → Hs fm G' (La ++ (O' ++ Lb)) H' → Ob d' v0 G' O' → Qb (.ok (), d') → D'.nx σ H') → (∀ G1, Same G G1 → HX { fm with E := WE W σ } La Lb Ob v0 G1 (exX (α := Unit)) Qb) → Hs { fm with E := WE W σ } G (La ++ (O ++ Lb)) H → Wp mb Qb ({ fm with E := WE W σ } : Fm).xw → tb W D' σ H)
    (hn : ∀ d' G' O' H', Same G G' → Hs fm G' (La ++ (O' ++ Lb)) H' → Ob d' v0 G' O' → Wp (rest d') Q fm.xw → tr D σ H') : tSeq (tTry tb K c i (tSuG fm.cl nn th) Wout) tr D σ H := by
  refine hb _ (fun x => match x.1 with | .ok _ => Wp (rest x.2) Q fm.xw | .exc c fs => Wp (errK nn hd c fs x.2) Q fm.xw) _ (fun d' G' O' H' a b c q => hn d' G' O' H' a b c q) (fun G1 e1 c fs d' q G2 O2 H2 dd e2 hs2 ob2 xd => ?_) hs.withE (.mk ?_)
  · have q2 : Wp (errK nn hd c fs d') Q fm.xw := q.out
    clear q
    unfold errK at q2
    split at q2
    · rename_i hk
      obtain ⟨hk, rfl⟩ := hk
      cases (show dd = none from xd)
      refine ⟨true, hex c hk, fun _ a ha => ?_, fun z => nomatch z⟩
      rw [tSuG_eq hk]
      exact hh c a d' G2 O2 H2 hk (e1.trans e2) (hs2.withE (E' := fm.E)) ob2 q2
    · exact q2.out.elim
  · have q := wpX_K hm
    unfold wpX at q
    cases mb with
    | ok x =>
      obtain ⟨x, d⟩ := x
      cases x with
      | ok a => exact q
      | exc c fs => exact q
    | exc c fs => exact q.elim
    | stuck => exact q.elim
/-- the same without an object -/
def errG {ρ : Type} (n : Nat) (f : Nat → Res ρ) (c : Nat) (fs : List (Str × V)) : Res ρ := if c < n ∧ fs = [] then f c else .stuck
theorem w_tryG {tb : WX → TS} {Wout : WX} {c : Value} {i nn : Nat} {th : Addr → Addr → TS} {mb : Res Unit} {hd : Nat → Res ρ} {rest : Res ρ}
    (hs : Hs fm G O H) (hm : Wp (tryM mb (errG nn hd) (fun _ => rest)) Q fm.xw)
    (hex : ∀ k, k < nn → PySem.W.exmOne K (.ref (fm.cl k)) c = some true)
    (hh : ∀ k a H', k < nn → Hs fm G O H' → Wp (hd k) Q fm.xw → th a (fm.cl k) { nx := fun σ' H' => tr D (σ'.set i none) H', rt := D.rt, bk := fun σ' H' => D.bk (σ'.set i none) H', ct := fun σ' H' => D.ct (σ'.set i none) H' } (σ.set i (some (.ref a))) H')
    (hb : ∀ (D' : Ends) (Qb : Unit → Prop) (W : WX), (∀ G' H', Same G G' → Hs ⟨H, G, WE W σ, fm.cl⟩ G' [] H' → Qb () → D'.nx σ H') → Hs ⟨H, G, WE W σ, fm.cl⟩ G [] H → Wp mb Qb (Fm.xw ⟨H, G, WE W σ, fm.cl⟩) → tb W D' σ H)
    (hn : ∀ G' H', Same G G' → Hs fm G' O H' → Wp rest Q fm.xw → tr D σ H') : tSeq (tTry tb K c i (tSuG fm.cl nn th) Wout) tr D σ H := by
  refine hb _ (fun _ => Wp rest Q fm.xw) _ (fun G' H' a b q => hn G' H' a (hs.stp b.fin) q) (Hs.start hs.gh) (.mk ?_)
  have q := hm.out
  cases mb with
  | ok u => exact .mk q
  | stuck => exact q
  | exc k fs =>
    have q' : (errG nn hd k fs).wp Q fm.xw := q
    unfold errG at q'
    split at q'
    · rename_i hk
      obtain ⟨hk, rfl⟩ := hk
      intro H' d e hd'
      cases (show d = none from hd')
      refine ⟨true, hex k hk, fun _ a ha => ?_, fun z => nomatch z⟩
      rw [tSuG_eq hk]
      exact hh k a H' hk (hs.stp (Stp.grow hs.gh e)) (.mk q')
    · exact q'.elim
end
end Mw

namespace Mw
open PySem PySem.Spec PyProof.Rows L2
/-! ### a sequence of which only the length counts -/
def rSq : Rp Int := ⟨fun K G v n => ∃ p vs, v = .ref p ∧ (SqL K G p vs ∨ SqT K G p vs) ∧ n = (vs.length : Int), fun e ⟨p, vs, a, b, c⟩ => ⟨p, vs, a, b.imp (same_l e) (same_t e), c⟩⟩
section
variable {α β γ δ : Type} {K : PySem.W.Frag} {fm : Fm} {σ : L2.St} {G G' H H' : Hp} {O : Own} {te ta tb : TE} {R : Rp α}
theorem e_seqlen {C : Rp (List α)} (c : Sq K C R) {m : Res (List α)} (h : EvE K fm te σ G O C m) : EvE K fm te σ G O rSq (lenM m) := fun G1 H1 e k Q q =>
  h G1 H1 e k _ (Res.wp_mono (Res.wp_bind q) (fun xs q v G2 H2 s r => by
    obtain ⟨p, vs, ev, hq, r'⟩ := c _ _ _ r
    exact q v G2 H2 s ⟨p, vs, ev, hq, by rw [Paired.length r']⟩) fun _ _ z => z)
theorem e_lenSq {m : Res Int} (h : EvE K fm te σ G O rSq m) : EvE K fm (tCB (Mw.rLen K) (tCons te tNil)) σ G O zI (m.bind .ok) :=
  e_cb (a_one h) fun G1 H1 x vs k ⟨v, ev, r⟩ Q q => by
    subst ev
    obtain ⟨p, ws, rfl, hq, rfl⟩ := r
    refine ⟨_, ws.length, rfl, ?_, q _ G1 H1 (Stp.refl k.gh) rfl⟩
    exact hq.imp (fun h => ⟨ws, same_l k.gh h, rfl⟩) fun h => ⟨ws, same_t k.gh h, rfl⟩
end
end Mw

/-! plain lemmas on the mirrors' combinators -/
namespace Mw
open PySem L2
section
variable {α β γ S ρ : Type}
/-- an item; out of range: anything -/
def gx [Inhabited α] (xs : List α) (i : Int) : α := (xs[i.toNat]?).getD default
theorem gx_nat [Inhabited α] {xs : List α} {i : Nat} (h : i < xs.length) : gx xs (i : Int) = xs[i] := by
  simp [gx, h]
theorem gx_mem [Inhabited α] {xs : List α} {i : Int} (h0 : 0 ≤ i) (h1 : i < xs.length) : gx xs i ∈ xs := by
  obtain ⟨n, rfl⟩ := Int.eq_ofNat_of_zero_le h0
  have h : n < xs.length := by omega
  rw [gx_nat h]; exact List.getElem_mem h
theorem atI_gx [Inhabited α] {xs : List α} {i : Int} (h0 : 0 ≤ i) (h1 : i < xs.length) : atI xs i = some (gx xs i) := by
  obtain ⟨n, rfl⟩ := Int.eq_ofNat_of_zero_le h0
  have h : n < xs.length := by omega
  rw [gx_nat h]
  unfold atI ixN
  rw [if_pos h0, if_pos h1]
  simp [h]
theorem idxM_gx [Inhabited α] {xs : List α} {i : Int} (h0 : 0 ≤ i) (h1 : i < xs.length) : idxM (.ok xs) (.ok i) = .ok (gx xs i) := by
  rw [idxM_ok, atI_gx h0 h1]; rfl
theorem gx_ext [Inhabited α] {xs ys : List α} (hl : xs.length = ys.length) (h : ∀ i : Nat, i < xs.length → gx xs i = gx ys i) : xs = ys := by
  apply List.ext_getElem hl
  intro i h1 h2
  have := h i h1
  rwa [gx_nat h1, gx_nat h2] at this
theorem gx_set [Inhabited α] {xs : List α} {i : Nat} {j : Int} {y : α} (hj : 0 ≤ j) (hi : i < xs.length) : gx (xs.set i y) j = if (i : Int) = j then y else gx xs j := by
  obtain ⟨n, rfl⟩ := Int.eq_ofNat_of_zero_le hj
  unfold gx
  simp only [Int.toNat_natCast]
  rw [List.getElem?_set]
  by_cases e : i = n
  · subst e; simp [hi]
  · rw [if_neg e, if_neg (by omega)]
theorem gx_map [Inhabited α] [Inhabited β] {xs : List α} {f : α → β} {i : Int} (h0 : 0 ≤ i) (h1 : i < xs.length) : gx (xs.map f) i = f (gx xs i) := by
  obtain ⟨n, rfl⟩ := Int.eq_ofNat_of_zero_le h0
  have h : n < xs.length := by omega
  rw [gx_nat (by simpa using h), gx_nat h, List.getElem_map]
theorem gx_rgL {lo : Int} {n : Nat} {i : Int} (h0 : 0 ≤ i) (h1 : i < n) : gx (rgL lo n) i = lo + i := by
  obtain ⟨k, rfl⟩ := Int.eq_ofNat_of_zero_le h0
  rw [gx_nat (by rw [rgL_length]; omega)]
  simp [rgL]
theorem lim_big : 1000000 < lim := by rw [lim_eq]; decide +kernel
theorem mem_rgL {lo x : Int} {n : Nat} : x ∈ rgL lo n ↔ lo ≤ x ∧ x < lo + n := by
  unfold rgL
  rw [List.mem_map]
  constructor
  · rintro ⟨i, hi, rfl⟩
    have := List.mem_range.mp hi
    omega
  · rintro ⟨h1, h2⟩
    exact ⟨(x - lo).toNat, List.mem_range.mpr (by omega), by omega⟩
theorem rng1_ok {n : Nat} (h : n < 1000000) : rng1M (.ok (n : Int)) = .ok (rgL 0 n) := by
  have : inR (n : Int) = true := by
    unfold inR
    rw [Bool.and_eq_true, decide_eq_true_eq, decide_eq_true_eq]
    have a : (-(2 ^ 62) : Int) ≤ 0 := by decide
    have b : (1000000 : Int) < 2 ^ 62 := by decide
    exact ⟨Int.le_trans a (by omega), Int.lt_trans (by omega) b⟩
  unfold rng1M
  rw [Res.bind_ok, if_pos this, Int.toNat_natCast]
theorem lcM_ok {c : α → Res Bool} {f : α → Res β} {p : α → Bool} {g : α → β} : ∀ {xs : List α}, (∀ x ∈ xs, c x = .ok (p x)) → (∀ x ∈ xs, p x = true → f x = .ok (g x)) → lcM c f xs = .ok ((xs.filter p).map g)
  | [], _, _ => rfl
  | x :: xs, h, hf => by
    have ih := lcM_ok (xs := xs) (fun y hy => h y (List.mem_cons_of_mem _ hy)) (fun y hy => hf y (List.mem_cons_of_mem _ hy))
    unfold lcM
    rw [h x (List.mem_cons_self ..), Res.nox_ok, Res.bind_ok]
    cases e : p x
    · rw [if_neg (by simp), ih, List.filter_cons_of_neg (by simp [e])]
    · rw [if_pos rfl, hf x (List.mem_cons_self ..) e, Res.nox_ok, Res.bind_ok, ih, List.filter_cons_of_pos e]; rfl
theorem lcB_ok {c : α → Res Bool} {f : α → Res β} (p : α → Bool) (g : α → β) {xs : List α} (hl : xs.length < 1000000) (h : ∀ x ∈ xs, c x = .ok (p x)) (hf : ∀ x ∈ xs, p x = true → f x = .ok (g x)) : lcB c f (.ok xs) = .ok ((xs.filter p).map g) := by
  show (if xs.length < lim then lcM c f xs else .stuck) = _
  rw [if_pos (Nat.lt_trans hl (lim_big)), lcM_ok h hf]
theorem lcB_map {f : α → Res β} (g : α → β) {xs : List α} (hl : xs.length < 1000000) (hf : ∀ x ∈ xs, f x = .ok (g x)) : lcB (fun _ => .ok true) f (.ok xs) = .ok (xs.map g) := by
  rw [lcB_ok (fun _ => true) g hl (fun _ _ => rfl) (fun x h _ => hf x h), List.filter_eq_self.mpr (fun _ _ => rfl)]
theorem lcB_filter {c : α → Res Bool} (p : α → Bool) {xs : List α} (hl : xs.length < 1000000) (h : ∀ x ∈ xs, c x = .ok (p x)) : lcB c (fun x => .ok x) (.ok xs) = .ok (xs.filter p) := by
  have := lcB_ok (f := fun x => .ok x) p (fun x => x) hl h (fun _ _ _ => rfl)
  rw [this, List.map_id']
theorem forM_ok {f : α → S → Res S} (P : List α → S → Prop) : ∀ {xs : List α} {s : S}, P xs s → (∀ x ys s, x ∈ xs → P (x :: ys) s → ∃ s', f x s = .ok s' ∧ P ys s') → ∃ s', forM f xs s = .ok s' ∧ P [] s'
  | [], s, h, _ => ⟨s, rfl, h⟩
  | x :: xs, s, h, k => by
    obtain ⟨s', e, h'⟩ := k x xs s (List.mem_cons_self ..) h
    unfold forM
    rw [e, Res.bind_ok]
    exact forM_ok P h' fun y ys s hy => k y ys s (List.mem_cons_of_mem _ hy)
theorem forM_fold {f : α → S → Res S} (g : S → α → S) (P : S → Prop) : ∀ {xs : List α} {s : S}, P s → (∀ x s, x ∈ xs → P s → f x s = .ok (g s x) ∧ P (g s x)) → forM f xs s = .ok (xs.foldl g s) ∧ P (xs.foldl g s)
  | [], s, h, _ => ⟨rfl, h⟩
  | x :: xs, s, h, k => by
    obtain ⟨e, h'⟩ := k x s (List.mem_cons_self ..) h
    unfold forM
    rw [e, Res.bind_ok]
    exact forM_fold g P h' fun y s hy => k y s (List.mem_cons_of_mem _ hy)
theorem rgL_cons (lo : Int) (n : Nat) : rgL lo (n + 1) = lo :: rgL (lo + 1) n := by
  unfold rgL
  rw [List.range_succ_eq_map, List.map_cons, List.map_map]
  congr 1
  · simp
  · apply List.map_congr_left
    intro i _
    simp only [Function.comp, Nat.succ_eq_add_one]
    omega
theorem rgL_succ (lo : Int) (n : Nat) : rgL lo (n + 1) = rgL lo n ++ [lo + (n : Int)] := by
  unfold rgL
  rw [List.range_succ, List.map_append]; rfl
/-- a loop over a range -/
theorem forM_rng {f : Int → S → Res S} (P : Nat → S → Prop) {n : Nat} {s : S} (h0 : P 0 s) (lo : Int) (h : ∀ k s, k < n → P k s → ∃ s', f (lo + (k : Int)) s = .ok s' ∧ P (k + 1) s') : ∃ s', forM f (rgL lo n) s = .ok s' ∧ P n s' := by
  have gen : ∀ (r k : Nat) (s : S), k + r = n → P k s → ∃ s', forM f (rgL (lo + (k : Int)) r) s = .ok s' ∧ P n s' := by
    intro r
    induction r with
    | zero => intro k s e hp; exact ⟨s, rfl, by rw [← e]; exact hp⟩
    | succ r ih =>
      intro k s e hp
      obtain ⟨s', e1, h1⟩ := h k s (by omega) hp
      obtain ⟨s2, e2, h2⟩ := ih (k + 1) s' (by omega) h1
      refine ⟨s2, ?_, h2⟩
      rw [rgL_cons]
      show (f (lo + (k : Int)) s).bind _ = _
      rw [e1, Res.bind_ok]
      rw [show lo + (k : Int) + 1 = lo + ((k + 1 : Nat) : Int) by omega]
      exact e2
  obtain ⟨s', e, h⟩ := gen n 0 s (by omega) h0
  exact ⟨s', by simpa using e, h⟩
/-- a loop that appends -/
theorem forM_app {f : α → List β → Res (List β)} (g : α → β) {xs : List α} (hl : xs.length < 1000000) (h : ∀ x acc, x ∈ xs → f x acc = appM acc (.ok (g x)) .ok) : forM f xs [] = .ok (xs.map g) := by
  have gen : ∀ (ys : List α) (acc : List β), (∀ x ∈ ys, x ∈ xs) → acc.length + ys.length ≤ xs.length → forM f ys acc = .ok (acc ++ ys.map g) := by
    intro ys
    induction ys with
    | nil => intro acc _ _; simp [forM]
    | cons y ys ih =>
      intro acc hm hl2
      unfold forM
      simp only [List.length_cons] at hl2
      rw [h y acc (hm y (List.mem_cons_self ..)), appM_ok _ _ _ (Nat.lt_trans (by omega : acc.length < 1000000) lim_big), Res.bind_ok, ih _ (fun x hx => hm x (List.mem_cons_of_mem _ hx)) (by simp; omega)]
      simp
  have := gen xs [] (fun _ h => h) (by simp)
  simpa using this
/-- a loop that only looks whether to leave with False -/
theorem forB_all {f : α → Unit → Res (Tn Unit Bool)} (p : α → Bool) : ∀ {xs : List α}, (∀ x ∈ xs, f x () = .ok (if p x = true then .nx () else .rt false)) → forB f xs () = .ok (if xs.all p = true then .nx () else .rt false)
  | [], _ => rfl
  | x :: xs, h => by
    have ih := forB_all p (xs := xs) fun y hy => h y (List.mem_cons_of_mem _ hy)
    unfold forB
    rw [h x (List.mem_cons_self ..), Res.bind_ok]
    cases e : p x
    · rw [if_neg (by simp)]
      rw [if_neg (by rw [List.all_cons, e]; simp)]
    · rw [if_pos rfl]
      show forB f xs () = _
      rw [ih, List.all_cons, e, Bool.true_and]
theorem shl1_ok {d : Nat} (h : d ≤ 1000) : shlM (.ok 1) (.ok (d : Int)) = .ok (((2 ^ d : Nat) : Nat) : Int) := by
  have : cpow 1 (d : Int) = true := by
    unfold cpow
    simp only [Bool.and_eq_true, decide_eq_true_eq]
    exact ⟨⟨by omega, by omega⟩, by decide⟩
  show (if cpow 1 (d : Int) = true then Res.ok ((1 : Int) * 2 ^ (d : Int).toNat) else .stuck) = _
  rw [if_pos this, Int.toNat_natCast, Int.one_mul]
  simp
theorem shl_ok {x : Int} {d : Nat} (h : d ≤ 1000) (hx : x.natAbs < 2 ^ 64) : shlM (.ok x) (.ok (d : Int)) = .ok (x * ((2 ^ d : Nat) : Int)) := by
  have : cpow x (d : Int) = true := by
    unfold cpow
    simp only [Bool.and_eq_true, decide_eq_true_eq]
    exact ⟨⟨by omega, by omega⟩, hx⟩
  show (if cpow x (d : Int) = true then Res.ok (x * 2 ^ (d : Int).toNat) else .stuck) = _
  rw [if_pos this, Int.toNat_natCast]
  simp
theorem mul_ok {x y : Int} (h : x.natAbs < 2 ^ 60 ∨ y.natAbs < 2 ^ 60) : mulM (.ok x) (.ok y) = .ok (x * y) := by
  show (if inB x || inB y then Res.ok (x * y) else .stuck) = _
  have : (inB x || inB y) = true := by
    simp only [inB, Bool.or_eq_true, Bool.and_eq_true, decide_eq_true_eq]
    rcases h with h | h
    · exact .inl ⟨by omega, by omega⟩
    · exact .inr ⟨by omega, by omega⟩
  rw [if_pos this]
theorem mod_ok {x y : Int} (h : 0 < y) : modM (.ok x) (.ok y) = .ok (x % y) := by
  show (if decide (0 < y) = true then Res.ok (x % y) else .stuck) = _
  rw [if_pos (by simpa using h)]
theorem fdiv_ok {x y : Int} (h : 0 < y) (h2 : y < 1073741824) : fdivM (.ok x) (.ok y) = .ok (x / y) := by
  show (if (decide (0 < y) && decide (y < 1073741824)) = true then Res.ok (x / y) else .stuck) = _
  rw [if_pos (by simp [h, h2])]
@[simp] theorem addM_ok (x y : Int) : addM (.ok x) (.ok y) = .ok (x + y) := rfl
@[simp] theorem subM_ok (x y : Int) : subM (.ok x) (.ok y) = .ok (x - y) := rfl
@[simp] theorem negM_ok (x : Int) : negM (.ok x) = .ok (-x) := rfl
theorem setM_ok {xs : List α} {i : Int} {y : α} {mk : List α → Res ρ} (h0 : 0 ≤ i) (h1 : i < xs.length) : setM xs (.ok i) (.ok y) mk = mk (xs.set i.toNat y) := by
  show (setF xs i y).bind mk = _
  unfold setF ixN
  rw [if_pos h0, if_pos h1]; rfl
theorem bif_eq {c : Bool} {a b : Res α} : Res.ite (.ok c) a b = if c = true then a else b := rfl
end
end Mw

/-! decision diagrams, plain: nodes by numbers, the greatest variable on top -/
namespace Bd
open PySem L2 Mw
abbrev Nd := Int × Int × Int
structure Dg where
  nodes : List (Option Nd)
  nums : List (Nd × Int)
  chs : List (Nd × Int)
def vr (d : Dg) (i : Int) : Int := if i ≤ 1 then -1 else ((gx d.nodes i).getD (0, 0, 0)).1
def Va (d : Dg) (i : Int) : Prop := 0 ≤ i ∧ i < d.nodes.length
/-- the value at bits -/
def sm (d : Dg) : Nat → Int → (Int → Bool) → Bool
  | 0, f, _ => decide (f = 1)
  | n + 1, f, b => if f ≤ 1 then decide (f = 1) else sm d n (if b ((gx d.nodes f).getD (0, 0, 0)).1 = true then ((gx d.nodes f).getD (0, 0, 0)).2.2 else ((gx d.nodes f).getD (0, 0, 0)).2.1) b
def sem (d : Dg) (f : Int) (b : Int → Bool) : Bool := sm d f.toNat f b
/-- the nodes are in order -/
structure Ok (c : Int) (d : Dg) : Prop where
  len : 2 ≤ d.nodes.length
  node : ∀ i : Int, 2 ≤ i → i < d.nodes.length → ∃ v lo hi, gx d.nodes i = some (v, lo, hi) ∧ (0 ≤ v ∧ v < c) ∧ lo ≠ hi ∧ (0 ≤ lo ∧ lo < i) ∧ (0 ≤ hi ∧ hi < i) ∧ vr d lo < v ∧ vr d hi < v
  num : ∀ k n, dget d.nums k = some n ↔ 2 ≤ n ∧ n < d.nodes.length ∧ gx d.nodes n = some k
section
variable {c : Int} {d : Dg}
theorem sm_lo {n : Nat} {f : Int} {b : Int → Bool} (h : f ≤ 1) : sm d n f b = decide (f = 1) := by
  cases n with
  | zero => rfl
  | succ n => unfold sm; rw [if_pos h]
theorem Ok.sm_fuel (D : Ok c d) : ∀ (n m : Nat) (f : Int) (b : Int → Bool), Va d f → f.toNat ≤ n → f.toNat ≤ m → sm d n f b = sm d m f b
  | n, m, f, b, hv, hn, hm => by
    by_cases h : f ≤ 1
    · rw [sm_lo h, sm_lo h]
    · cases n with
      | zero => omega
      | succ n =>
        cases m with
        | zero => omega
        | succ m =>
          obtain ⟨v, lo, hi, e, _, _, h1, h2, _, _⟩ := D.node f (by omega) hv.2
          unfold sm
          rw [if_neg h, if_neg h, e]
          dsimp only [Option.getD_some]
          have hl := hv.2
          by_cases hb : b v = true
          · rw [if_pos hb]
            exact Ok.sm_fuel D n m hi b ⟨h2.1, by omega⟩ (by omega) (by omega)
          · rw [if_neg hb]
            exact Ok.sm_fuel D n m lo b ⟨h1.1, by omega⟩ (by omega) (by omega)
theorem sem_lo {f : Int} {b : Int → Bool} (h : f ≤ 1) : sem d f b = decide (f = 1) := sm_lo h
theorem Ok.sem_node (D : Ok c d) {f v lo hi : Int} {b : Int → Bool} (h : 2 ≤ f) (hl : f < d.nodes.length) (e : gx d.nodes f = some (v, lo, hi)) : sem d f b = if b v = true then sem d hi b else sem d lo b := by
  obtain ⟨v', lo', hi', e', _, _, h1, h2, _, _⟩ := D.node f h hl
  rw [e] at e'
  obtain ⟨rfl, rfl, rfl⟩ : v = v' ∧ lo = lo' ∧ hi = hi' := by
    have := Option.some.inj e'
    simp only [Prod.mk.injEq] at this
    exact this
  unfold sem
  obtain ⟨n, hn⟩ : ∃ n, f.toNat = n + 1 := ⟨f.toNat - 1, by omega⟩
  rw [hn]
  conv => lhs; unfold sm
  rw [if_neg (by omega), e]
  dsimp only [Option.getD_some]
  by_cases hb : b v = true
  · rw [if_pos hb, if_pos hb]
    exact D.sm_fuel _ _ hi b ⟨h2.1, by omega⟩ (by omega) (by omega)
  · rw [if_neg hb, if_neg hb]
    exact D.sm_fuel _ _ lo b ⟨h1.1, by omega⟩ (by omega) (by omega)
theorem Ok.vr_node (D : Ok c d) {f v lo hi : Int} (h : 2 ≤ f) (e : gx d.nodes f = some (v, lo, hi)) : vr d f = v := by
  unfold vr
  rw [if_neg (by omega), e]; rfl
theorem vr_lo {f : Int} (h : f ≤ 1) : vr d f = -1 := if_pos h
/-- only the variables up to the top one count -/
theorem Ok.sem_congr (D : Ok c d) : ∀ (n : Nat) (f : Int) (b b' : Int → Bool), f.toNat ≤ n → Va d f → (∀ v, v ≤ vr d f → b v = b' v) → sem d f b = sem d f b'
  | n, f, b, b', hn, hv, h => by
    by_cases h1 : f ≤ 1
    · rw [sem_lo h1, sem_lo h1]
    · obtain ⟨v, lo, hi, e, _, _, ha, hb, hc, hd⟩ := D.node f (by omega) hv.2
      have ev := D.vr_node (by omega) e
      cases n with
      | zero => omega
      | succ n =>
        have hl := hv.2
        rw [D.sem_node (by omega) hv.2 e, D.sem_node (by omega) hv.2 e, h v (by omega)]
        have el := Ok.sem_congr D n lo b b' (by omega) ⟨ha.1, by omega⟩ fun w hw => h w (by omega)
        have eh := Ok.sem_congr D n hi b b' (by omega) ⟨hb.1, by omega⟩ fun w hw => h w (by omega)
        rw [el, eh]
def up (b : Int → Bool) (v : Int) (k : Bool) : Int → Bool := fun w => if w = v then k else b w
theorem Ok.sem_cong (D : Ok c d) {f : Int} {b b' : Int → Bool} (hv : Va d f) (h : ∀ v, v ≤ vr d f → b v = b' v) : sem d f b = sem d f b' := D.sem_congr f.toNat f b b' (Nat.le_refl _) hv h
theorem Ok.sem_up (D : Ok c d) {f v : Int} {b : Int → Bool} {k : Bool} (hv : Va d f) (h : vr d f < v) : sem d f (up b v k) = sem d f b := D.sem_cong hv fun w hw => by
  unfold up; rw [if_neg (by omega)]
/-- a node of two sons is told apart from what lies below its variable, and equal values have equal numbers -/
theorem Ok.canon (D : Ok c d) : ∀ (n : Nat) (f g : Int), f.toNat + g.toNat ≤ n → Va d f → Va d g → (∀ b, sem d f b = sem d g b) → f = g
  | n, f, g, hn, hf, hg, h => by
    have low : ∀ x : Int, Va d x → x ≤ 1 → x = 0 ∨ x = 1 := fun x hx h => by have := hx.1; omega
    by_cases f1 : f ≤ 1
    · by_cases g1 : g ≤ 1
      · have := h fun _ => false
        rw [sem_lo f1, sem_lo g1] at this
        rcases low f hf f1 with rfl | rfl <;> rcases low g hg g1 with rfl | rfl <;> first | rfl | (simp at this)
      · exfalso
        obtain ⟨v, lo, hi, e, _, hne, ha, hb, hc, hd⟩ := D.node g (by omega) hg.2
        have hl := hg.2
        cases n with
        | zero => omega
        | succ n =>
          have el : lo = f := Ok.canon D n lo f (by omega) ⟨ha.1, by omega⟩ hf fun b => by
            have := h (up b v false)
            rw [D.sem_node (by omega) hg.2 e, show up b v false v = false from if_pos rfl, if_neg (by simp), D.sem_up ⟨ha.1, by omega⟩ hc, sem_lo f1] at this
            rw [← this, sem_lo f1]
          have eh : hi = f := Ok.canon D n hi f (by omega) ⟨hb.1, by omega⟩ hf fun b => by
            have := h (up b v true)
            rw [D.sem_node (by omega) hg.2 e, show up b v true v = true from if_pos rfl, if_pos rfl, D.sem_up ⟨hb.1, by omega⟩ hd, sem_lo f1] at this
            rw [← this, sem_lo f1]
          exact hne (el.trans eh.symm)
    · obtain ⟨v, lo, hi, e, _, hne, ha, hb, hc, hd⟩ := D.node f (by omega) hf.2
      have hl := hf.2
      have ev := D.vr_node (by omega) e
      cases n with
      | zero => omega
      | succ n =>
        by_cases hlt : vr d g < v
        · exfalso
          have el : lo = g := Ok.canon D n lo g (by omega) ⟨ha.1, by omega⟩ hg fun b => by
            have := h (up b v false)
            rw [D.sem_node (by omega) hf.2 e, show up b v false v = false from if_pos rfl, if_neg (by simp), D.sem_up ⟨ha.1, by omega⟩ hc, D.sem_up hg hlt] at this
            exact this
          have eh : hi = g := Ok.canon D n hi g (by omega) ⟨hb.1, by omega⟩ hg fun b => by
            have := h (up b v true)
            rw [D.sem_node (by omega) hf.2 e, show up b v true v = true from if_pos rfl, if_pos rfl, D.sem_up ⟨hb.1, by omega⟩ hd, D.sem_up hg hlt] at this
            exact this
          exact hne (el.trans eh.symm)
        · have g1 : ¬ g ≤ 1 := fun g1 => by
            have := D.node f (by omega) hf.2
            rw [vr_lo g1] at hlt
            obtain ⟨v', _, _, e', hv', _⟩ := this
            rw [e] at e'
            have := (Prod.mk.injEq _ _ _ _ ▸ Option.some.inj e' : _ ∧ _).1
            omega
          obtain ⟨w, lo', hi', e', _, hne', ha', hb', hc', hd'⟩ := D.node g (by omega) hg.2
          have hl' := hg.2
          have ew := D.vr_node (by omega) e'
          by_cases hgt : v < w
          · exfalso
            have el : lo' = f := Ok.canon D n lo' f (by omega) ⟨ha'.1, by omega⟩ hf fun b => by
              have := h (up b w false)
              rw [D.sem_node (by omega) hg.2 e', show up b w false w = false from if_pos rfl, if_neg (by simp), D.sem_up ⟨ha'.1, by omega⟩ hc', D.sem_up hf (by omega)] at this
              exact this.symm
            have eh : hi' = f := Ok.canon D n hi' f (by omega) ⟨hb'.1, by omega⟩ hf fun b => by
              have := h (up b w true)
              rw [D.sem_node (by omega) hg.2 e', show up b w true w = true from if_pos rfl, if_pos rfl, D.sem_up ⟨hb'.1, by omega⟩ hd', D.sem_up hf (by omega)] at this
              exact this.symm
            exact hne' (el.trans eh.symm)
          · have evw : v = w := by omega
            subst evw
            have el : lo = lo' := Ok.canon D n lo lo' (by omega) ⟨ha.1, by omega⟩ ⟨ha'.1, by omega⟩ fun b => by
              have := h (up b v false)
              rw [D.sem_node (by omega) hf.2 e, D.sem_node (by omega) hg.2 e', show up b v false v = false from if_pos rfl, if_neg (by simp), if_neg (by simp), D.sem_up ⟨ha.1, by omega⟩ hc, D.sem_up ⟨ha'.1, by omega⟩ hc'] at this
              exact this
            have eh : hi = hi' := Ok.canon D n hi hi' (by omega) ⟨hb.1, by omega⟩ ⟨hb'.1, by omega⟩ fun b => by
              have := h (up b v true)
              rw [D.sem_node (by omega) hf.2 e, D.sem_node (by omega) hg.2 e', show up b v true v = true from if_pos rfl, if_pos rfl, if_pos rfl, D.sem_up ⟨hb.1, by omega⟩ hd, D.sem_up ⟨hb'.1, by omega⟩ hd'] at this
              exact this
            subst el eh
            have h1 := (D.num (v, lo, hi) f).mpr ⟨by omega, hf.2, e⟩
            have h2 := (D.num (v, lo, hi) g).mpr ⟨by omega, hg.2, e'⟩
            rw [h1] at h2
            exact Option.some.inj h2
end
end Bd

namespace Bd
open PySem L2 Mw
theorem find_app {α : Type} (p : α → Bool) : ∀ (l m : List α), (l ++ m).find? p = (l.find? p).or (m.find? p)
  | [], m => by simp
  | x :: l, m => by
    rw [List.cons_append, List.find?_cons, List.find?_cons]
    cases p x with
    | true => rfl
    | false => exact find_app p l m
section
variable {κ β : Type} [DecidableEq κ]
theorem dget_nil (k : κ) : dget ([] : List (κ × β)) k = none := rfl
theorem dput_new {xs : List (κ × β)} {k : κ} (v : β) (h : dget xs k = none) : dput xs k v = xs ++ [(k, v)] := by
  unfold dput
  rw [if_neg]
  rw [List.any_eq_true]
  rintro ⟨p, hp, e⟩
  unfold dget at h
  have : (xs.find? fun p => decide (p.1 = k)) = none := by
    cases hh : xs.find? fun p => decide (p.1 = k) with
    | none => rfl
    | some q => rw [hh] at h; cases h
  rw [List.find?_eq_none] at this
  exact this p hp e
theorem dget_app {xs : List (κ × β)} {k j : κ} {v : β} (h : dget xs k = none) : dget (xs ++ [(k, v)]) j = if j = k then some v else dget xs j := by
  unfold dget at *
  rw [find_app]
  by_cases e : j = k
  · subst e
    rw [if_pos rfl]
    have : (xs.find? fun p => decide (p.1 = j)) = none := by
      cases hh : xs.find? fun p => decide (p.1 = j) with
      | none => rfl
      | some q => rw [hh] at h; cases h
    rw [this]
    simp
  · rw [if_neg e]
    have : ([(k, v)] : List (κ × β)).find? (fun p => decide (p.1 = j)) = none := by
      rw [List.find?_cons, decide_eq_false (fun h => e h.symm)]; rfl
    rw [this]
    cases xs.find? fun p => decide (p.1 = j) <;> rfl
end
structure Ext (d d' : Dg) : Prop where
  len : d.nodes.length ≤ d'.nodes.length
  same : ∀ i, Va d i → gx d'.nodes i = gx d.nodes i
theorem Ext.refl (d : Dg) : Ext d d := ⟨Nat.le_refl _, fun _ _ => rfl⟩
theorem Ext.va {d d' : Dg} (e : Ext d d') {i : Int} (h : Va d i) : Va d' i := ⟨h.1, by have := e.len; have := h.2; omega⟩
theorem Ext.trans {a b c : Dg} (e : Ext a b) (f : Ext b c) : Ext a c := ⟨Nat.le_trans e.len f.len, fun i h => (f.same i (e.va h)).trans (e.same i h)⟩
theorem Ext.vr {d d' : Dg} (e : Ext d d') {i : Int} (h : Va d i) : vr d' i = vr d i := by
  unfold Bd.vr
  by_cases h1 : i ≤ 1
  · rw [if_pos h1, if_pos h1]
  · rw [if_neg h1, if_neg h1, e.same i h]
section
variable {c : Int} {d d' : Dg}
theorem Ok.sem_ext (D : Ok c d) (D' : Ok c d') (e : Ext d d') : ∀ (n : Nat) (f : Int) (b : Int → Bool), f.toNat ≤ n → Va d f → sem d' f b = sem d f b
  | n, f, b, hn, hv => by
    by_cases h1 : f ≤ 1
    · rw [sem_lo h1, sem_lo h1]
    · obtain ⟨v, lo, hi, en, _, _, ha, hb, _, _⟩ := D.node f (by omega) hv.2
      have hl := hv.2
      cases n with
      | zero => omega
      | succ n =>
        rw [D.sem_node (by omega) hv.2 en, D'.sem_node (by omega) (e.va hv).2 ((e.same f hv).trans en), Ok.sem_ext D D' e n lo b (by omega) ⟨ha.1, by omega⟩, Ok.sem_ext D D' e n hi b (by omega) ⟨hb.1, by omega⟩]
theorem Ok.ext (D : Ok c d) (D' : Ok c d') (e : Ext d d') {f : Int} {b : Int → Bool} (hv : Va d f) : sem d' f b = sem d f b := D.sem_ext D' e f.toNat f b (Nat.le_refl _) hv
def found (d : Dg) (v lo hi : Int) : Int × Dg := if lo = hi then (lo, d) else match dget d.nums (v, lo, hi) with
  | some n => (n, d)
  | none => ((d.nodes.length : Int), { d with nodes := d.nodes ++ [some (v, lo, hi)], nums := dput d.nums (v, lo, hi) (d.nodes.length : Int) })
theorem gx_app_lt {α : Type} [Inhabited α] {xs : List α} {y : α} {i : Int} (h0 : 0 ≤ i) (h : i < xs.length) : gx (xs ++ [y]) i = gx xs i := by
  obtain ⟨n, rfl⟩ := Int.eq_ofNat_of_zero_le h0
  have hn : n < xs.length := by omega
  rw [gx_nat (by simp; omega), gx_nat hn, List.getElem_append_left hn]
theorem gx_app_at {α : Type} [Inhabited α] {xs : List α} {y : α} : gx (xs ++ [y]) (xs.length : Int) = y := by
  rw [gx_nat (by simp)]; simp
structure Found (c : Int) (d : Dg) (v lo hi : Int) (n : Int) (d' : Dg) : Prop where
  ok : Ok c d'
  ext : Ext d d'
  va : Va d' n
  vr : vr d' n ≤ v
  sem : ∀ b, sem d' n b = if b v = true then sem d hi b else sem d lo b
  chs : d'.chs = d.chs
  nl : d'.nodes.length ≤ d.nodes.length + 1
  ml : d'.nums.length ≤ d.nums.length + 1
theorem Ok.found (D : Ok c d) {v lo hi : Int} (hv : 0 ≤ v ∧ v < c) (hlo : Va d lo) (hhi : Va d hi) (h1 : Bd.vr d lo < v) (h2 : Bd.vr d hi < v) : Found c d v lo hi (found d v lo hi).1 (found d v lo hi).2 := by
  unfold Bd.found
  by_cases e : lo = hi
  · rw [if_pos e]
    exact ⟨D, Ext.refl d, hlo, by dsimp only; omega, fun b => by subst e; simp, rfl, by dsimp only; omega, by dsimp only; omega⟩
  · rw [if_neg e]
    cases hn : dget d.nums (v, lo, hi) with
    | some n =>
      obtain ⟨a, b, g⟩ := (D.num _ n).mp hn
      exact ⟨D, Ext.refl d, ⟨by dsimp only; omega, b⟩, by rw [D.vr_node a g]; omega, fun b' => D.sem_node a b g, rfl, by dsimp only; omega, by dsimp only; omega⟩
    | none =>
      dsimp only
      have hl := D.len
      have hl1 := hlo.2
      have hl2 := hhi.2
      have hext : Ext d { d with nodes := d.nodes ++ [some (v, lo, hi)], nums := dput d.nums (v, lo, hi) (d.nodes.length : Int) } := ⟨by simp, fun i hi => gx_app_lt hi.1 hi.2⟩
      have hat : gx (d.nodes ++ [some (v, lo, hi)]) (d.nodes.length : Int) = some (v, lo, hi) := gx_app_at
      have hok : Ok c { d with nodes := d.nodes ++ [some (v, lo, hi)], nums := dput d.nums (v, lo, hi) (d.nodes.length : Int) } := by
        refine ⟨by simp; omega, fun i h2i hil => ?_, fun k n => ?_⟩
        · simp only [List.length_append, List.length_singleton] at hil
          by_cases hlt : i < d.nodes.length
          · obtain ⟨v', lo', hi', e', hv', hne, ha, hb, hc, hd⟩ := D.node i h2i hlt
            exact ⟨v', lo', hi', (gx_app_lt (by omega) hlt).trans e', hv', hne, ha, hb, by rw [hext.vr ⟨ha.1, by omega⟩]; exact hc, by rw [hext.vr ⟨hb.1, by omega⟩]; exact hd⟩
          · have ei : i = (d.nodes.length : Int) := by omega
            subst ei
            exact ⟨v, lo, hi, hat, hv, e, ⟨hlo.1, hlo.2⟩, ⟨hhi.1, hhi.2⟩, by rw [hext.vr hlo]; exact h1, by rw [hext.vr hhi]; exact h2⟩
        · dsimp only
          rw [dput_new _ hn, dget_app hn]
          by_cases ek : k = (v, lo, hi)
          · subst ek
            rw [if_pos rfl]
            constructor
            · intro h
              have := Option.some.inj h
              subst this
              exact ⟨by omega, by simp only [List.length_append, List.length_singleton]; omega, hat⟩
            · rintro ⟨a, b, g⟩
              by_cases hlt : n < d.nodes.length
              · rw [gx_app_lt (by omega) hlt] at g
                have := (D.num _ n).mpr ⟨a, hlt, g⟩
                rw [hn] at this
                cases this
              · simp only [List.length_append, List.length_singleton] at b
                rw [show n = (d.nodes.length : Int) by omega]
          · rw [if_neg ek, D.num]
            constructor
            · rintro ⟨a, b, g⟩
              exact ⟨a, by simp; omega, (gx_app_lt (by omega) b).trans g⟩
            · rintro ⟨a, b, g⟩
              by_cases hlt : n < d.nodes.length
              · exact ⟨a, hlt, by rw [gx_app_lt (by omega) hlt] at g; exact g⟩
              · simp only [List.length_append, List.length_singleton] at b
                have : n = (d.nodes.length : Int) := by omega
                subst this
                rw [hat] at g
                exact absurd (Option.some.inj g).symm ek
      refine ⟨hok, hext, ⟨by omega, by simp only [List.length_append, List.length_singleton]; omega⟩, ?_, fun b => ?_, rfl, by simp, ?_⟩
      · rw [hok.vr_node (by omega) hat]; omega
      · rw [hok.sem_node (by omega) (by simp only [List.length_append, List.length_singleton]; omega) hat, D.ext hok hext hhi, D.ext hok hext hlo]
      · rw [dput_new _ hn]; simp
def side (d : Dg) (n v bit : Int) : Int := if n ≤ 1 then n else if vr d n ≠ v then n else if bit = 0 then ((gx d.nodes n).getD (0, 0, 0)).2.1 else ((gx d.nodes n).getD (0, 0, 0)).2.2
theorem Ok.side (D : Ok c d) {n v : Int} (hv : Va d n) (h0 : 0 ≤ v) (h : Bd.vr d n ≤ v) (bit : Int) : Va d (side d n v bit) ∧ Bd.vr d (side d n v bit) < v ∧ ∀ b : Int → Bool, b v = !decide (bit = 0) → sem d (side d n v bit) b = sem d n b := by
  unfold Bd.side
  by_cases h1 : n ≤ 1
  · rw [if_pos h1]
    exact ⟨hv, by rw [vr_lo h1]; omega, fun _ _ => rfl⟩
  · rw [if_neg h1]
    obtain ⟨w, lo, hi, e, _, _, ha, hb, hc, hd⟩ := D.node n (by omega) hv.2
    have hl := hv.2
    have ew := D.vr_node (by omega) e
    by_cases h2 : Bd.vr d n ≠ v
    · rw [if_pos h2]
      exact ⟨hv, by omega, fun _ _ => rfl⟩
    · rw [if_neg h2, e]
      have evw : w = v := by omega
      subst evw
      dsimp only [Option.getD_some]
      by_cases h3 : bit = 0
      · rw [if_pos h3]
        exact ⟨⟨ha.1, by omega⟩, hc, fun b hb' => by rw [D.sem_node (by omega) hv.2 e, hb', decide_eq_true h3]; simp⟩
      · rw [if_neg h3]
        exact ⟨⟨hb.1, by omega⟩, hd, fun b hb' => by rw [D.sem_node (by omega) hv.2 e, hb', decide_eq_false h3]; simp⟩
def ite3 (a b e : Bool) : Bool := if a = true then b else e
def top3 (d : Dg) (f g h : Int) : Int := max (vr d f) (max (vr d g) (vr d h))
structure Ch (d : Dg) : Prop where
  ch : ∀ f g h r, dget d.chs (f, g, h) = some r → Va d f ∧ Va d g ∧ Va d h ∧ Va d r ∧ vr d r ≤ top3 d f g h ∧ ∀ b, sem d r b = ite3 (sem d f b) (sem d g b) (sem d h b)
def chosen : Nat → Dg → Int → Int → Int → Option (Int × Dg)
  | 0, _, _, _, _ => none
  | n + 1, d, f, g, h => if f = 1 ∨ g = h then some (g, d) else if f = 0 then some (h, d) else match dget d.chs (f, g, h) with
    | some r => some (r, d)
    | none =>
      (chosen n d (side d f (top3 d f g h) 0) (side d g (top3 d f g h) 0) (side d h (top3 d f g h) 0)).bind fun x0 =>
      (chosen n x0.2 (side x0.2 f (top3 d f g h) 1) (side x0.2 g (top3 d f g h) 1) (side x0.2 h (top3 d f g h) 1)).bind fun x1 =>
      some ((found x1.2 (top3 d f g h) x0.1 x1.1).1, { (found x1.2 (top3 d f g h) x0.1 x1.1).2 with chs := dput (found x1.2 (top3 d f g h) x0.1 x1.1).2.chs (f, g, h) (found x1.2 (top3 d f g h) x0.1 x1.1).1 })
structure Chosen (c : Int) (N : Nat) (d : Dg) (f g h : Int) (r : Int) (d' : Dg) : Prop where
  ok : Ok c d'
  ch : Ch d'
  ext : Ext d d'
  va : Va d' r
  vr : vr d' r ≤ top3 d f g h
  sem : ∀ b, sem d' r b = ite3 (sem d f b) (sem d g b) (sem d h b)
  nl : d'.nodes.length ≤ d.nodes.length + N
  ml : d'.nums.length ≤ d.nums.length + N
  cl : d'.chs.length ≤ d.chs.length + N
theorem Ch.ext (D : Ok c d) (D' : Ok c d') (C : Ch d) (e : Ext d d') (h : d'.chs = d.chs) : Ch d' := ⟨fun f g h' r q => by
  rw [h] at q
  obtain ⟨a, b, c', r', v, s⟩ := C.ch f g h' r q
  refine ⟨e.va a, e.va b, e.va c', e.va r', ?_, fun x => ?_⟩
  · unfold top3
    rw [e.vr a, e.vr b, e.vr c', e.vr r']; exact v
  · rw [D.ext D' e a, D.ext D' e b, D.ext D' e c', D.ext D' e r']; exact s x⟩
theorem Ok.vr_ge (D : Ok c d) {f : Int} (h : Va d f) : -1 ≤ Bd.vr d f ∧ Bd.vr d f < max 0 c ∧ (2 ≤ f → 0 ≤ Bd.vr d f ∧ Bd.vr d f < c) := by
  by_cases h1 : f ≤ 1
  · rw [vr_lo h1]
    exact ⟨by omega, by omega, by omega⟩
  · obtain ⟨v, lo, hi, e, hv, _⟩ := D.node f (by omega) h.2
    rw [D.vr_node (by omega) e]
    exact ⟨by omega, by omega, fun _ => hv⟩
theorem dput_same {κ β : Type} [DecidableEq κ] {xs : List (κ × β)} {k j : κ} {v w : β} (h : dget (dput xs k v) j = some w) : (j = k ∧ w = v) ∨ dget xs j = some w := by
  cases hk : dget xs k with
  | none =>
    rw [dput_new v hk, dget_app hk] at h
    by_cases e : j = k
    · rw [if_pos e] at h; exact .inl ⟨e, (Option.some.inj h).symm⟩
    · rw [if_neg e] at h; exact .inr h
  | some u =>
    have hany : (xs.any fun p => decide (p.1 = k)) = true := by
      unfold dget at hk
      cases hh : xs.find? fun p => decide (p.1 = k) with
      | none => rw [hh] at hk; cases hk
      | some q =>
        rw [List.any_eq_true]
        exact ⟨q, List.mem_of_find?_eq_some hh, List.find?_some (p := fun p : κ × β => decide (p.1 = k)) hh⟩
    unfold dput at h
    rw [if_pos hany] at h
    unfold dget at h ⊢
    rw [List.find?_map] at h
    have ef : ((fun p : κ × β => decide (p.1 = j)) ∘ fun p : κ × β => if p.1 = k then (p.1, v) else p) = fun p => decide (p.1 = j) := by
      funext p
      simp only [Function.comp]
      split <;> rfl
    rw [ef] at h
    cases hh : xs.find? fun p => decide (p.1 = j) with
    | none => rw [hh] at h; cases h
    | some q =>
      rw [hh] at h
      have hq : q.1 = j := of_decide_eq_true (List.find?_some (p := fun p : κ × β => decide (p.1 = j)) hh)
      by_cases e : j = k
      · simp only [Option.map_some, hq, e, if_true] at h
        exact .inl ⟨e, (Option.some.inj h).symm⟩
      · simp only [Option.map_some, hq, if_neg e] at h
        exact .inr h
theorem dput_len {κ β : Type} [DecidableEq κ] (xs : List (κ × β)) (k : κ) (v : β) : (dput xs k v).length ≤ xs.length + 1 := by
  unfold dput
  split <;> simp
theorem Ok.chosen : ∀ (n : Nat) (d : Dg) (f g h : Int), Ok c d → Ch d → Va d f → Va d g → Va d h → top3 d f g h + 2 ≤ (n : Int) → ∃ r d', chosen n d f g h = some (r, d') ∧ Chosen c (2 ^ n - 1) d f g h r d'
  | 0, d, f, g, h, D, C, hf, hg, hh, ht => by
    have := (D.vr_ge hf).1
    unfold top3 at ht
    omega
  | n + 1, d, f, g, h, D, C, hf, hg, hh, ht => by
    have p2 : 0 < 2 ^ n := Nat.pow_pos (by decide)
    have e2 : 2 ^ (n + 1) = 2 * 2 ^ n := by rw [Nat.pow_succ]; omega
    have l0 := D.len
    have low : ∀ b, f = 1 → sem d f b = true := fun b e => by rw [e, sem_lo (by omega)]; rfl
    unfold Bd.chosen
    by_cases h1 : f = 1 ∨ g = h
    · rw [if_pos h1]
      refine ⟨g, d, rfl, D, C, Ext.refl d, hg, by unfold top3; omega, fun b => ?_, by omega, by omega, by omega⟩
      rcases h1 with e | e
      · unfold ite3; rw [low b e, if_pos rfl]
      · subst e; unfold ite3; simp
    · rw [if_neg h1]
      by_cases h0 : f = 0
      · rw [if_pos h0]
        refine ⟨h, d, rfl, D, C, Ext.refl d, hh, by unfold top3; omega, fun b => ?_, by omega, by omega, by omega⟩
        have hz : sem d f b = false := by rw [h0, sem_lo (by omega)]; rfl
        unfold ite3
        rw [hz]; simp
      · rw [if_neg h0]
        cases hc : dget d.chs (f, g, h) with
        | some r =>
          obtain ⟨_, _, _, a, b, s⟩ := C.ch f g h r hc
          exact ⟨r, d, rfl, D, C, Ext.refl d, a, b, s, by omega, by omega, by omega⟩
        | none =>
          dsimp only
          have hf2 : 2 ≤ f := by have := hf.1; omega
          have vf := (D.vr_ge hf).2.2 hf2
          have vg := (D.vr_ge hg)
          have vh := (D.vr_ge hh)
          have t0 : 0 ≤ top3 d f g h ∧ top3 d f g h < c := by
            unfold top3
            omega
          have tf : Bd.vr d f ≤ top3 d f g h := by unfold top3; omega
          have tg : Bd.vr d g ≤ top3 d f g h := by unfold top3; omega
          have th : Bd.vr d h ≤ top3 d f g h := by unfold top3; omega
          obtain ⟨t, hT⟩ : ∃ t, top3 d f g h = t := ⟨_, rfl⟩
          rw [hT] at ht t0 tf tg th ⊢
          obtain ⟨vaf, vrf, sf⟩ := D.side hf t0.1 tf 0
          obtain ⟨vag, vrg, sg⟩ := D.side hg t0.1 tg 0
          obtain ⟨vah, vrh, sh⟩ := D.side hh t0.1 th 0
          obtain ⟨r0, d1, er0, R0⟩ := Ok.chosen n d _ _ _ D C vaf vag vah (by unfold top3; omega)
          rw [er0, Option.bind_some]
          dsimp only
          have hf1 := R0.ext.va hf
          have hg1 := R0.ext.va hg
          have hh1 := R0.ext.va hh
          obtain ⟨vaf', vrf', sf'⟩ := R0.ok.side hf1 t0.1 (by rw [R0.ext.vr hf]; exact tf) 1
          obtain ⟨vag', vrg', sg'⟩ := R0.ok.side hg1 t0.1 (by rw [R0.ext.vr hg]; exact tg) 1
          obtain ⟨vah', vrh', sh'⟩ := R0.ok.side hh1 t0.1 (by rw [R0.ext.vr hh]; exact th) 1
          obtain ⟨r1, d2, er1, R1⟩ := Ok.chosen n d1 _ _ _ R0.ok R0.ch vaf' vag' vah' (by unfold top3; omega)
          rw [er1, Option.bind_some]
          dsimp only
          have v0 : Bd.vr d2 r0 < t := by
            rw [R1.ext.vr R0.va]
            have := R0.vr
            unfold top3 at this
            omega
          have v1 : Bd.vr d2 r1 < t := by
            have := R1.vr
            unfold top3 at this
            omega
          have F := R1.ok.found t0 (R1.ext.va R0.va) R1.va v0 v1
          generalize Bd.found d2 t r0 r1 = w at F
          obtain ⟨r, d3⟩ := w
          dsimp only at F ⊢
          have e03 : Ext d d3 := (R0.ext.trans R1.ext).trans F.ext
          have hsem : ∀ b, sem d3 r b = ite3 (sem d f b) (sem d g b) (sem d h b) := fun b => by
            rw [F.sem b]
            cases hb : b t with
            | true =>
              rw [if_pos rfl, R1.sem b, sf' b (by rw [hb]; rfl), sg' b (by rw [hb]; rfl), sh' b (by rw [hb]; rfl), D.ext R0.ok R0.ext hf, D.ext R0.ok R0.ext hg, D.ext R0.ok R0.ext hh]
            | false =>
              rw [if_neg (by simp), R0.ok.ext R1.ok R1.ext R0.va, R0.sem b, sf b (by rw [hb]; rfl), sg b (by rw [hb]; rfl), sh b (by rw [hb]; rfl)]
          have hok : Ok c { d3 with chs := dput d3.chs (f, g, h) r } := ⟨F.ok.len, F.ok.node, F.ok.num⟩
          have hx : Ext d3 { d3 with chs := dput d3.chs (f, g, h) r } := ⟨Nat.le_refl _, fun _ _ => rfl⟩
          have C3 : Ch d3 := Ch.ext R1.ok F.ok R1.ch F.ext F.chs
          refine ⟨r, _, rfl, hok, ⟨fun f' g' h' r' q => ?_⟩, e03.trans hx, F.va, ?_, fun b => (F.ok.ext hok hx F.va).trans (hsem b), ?_, ?_, ?_⟩
          · rcases dput_same q with ⟨e, er⟩ | q
            · obtain ⟨rfl, rfl, rfl⟩ : f' = f ∧ g' = g ∧ h' = h := by simpa using e
              subst er
              refine ⟨e03.va hf, e03.va hg, e03.va hh, F.va, ?_, fun b => ?_⟩
              · show Bd.vr d3 r' ≤ max (Bd.vr d3 f') (max (Bd.vr d3 g') (Bd.vr d3 h'))
                rw [e03.vr hf, e03.vr hg, e03.vr hh]
                have := F.vr
                have hT' := hT
                unfold top3 at hT'
                omega
              · rw [F.ok.ext hok hx F.va, F.ok.ext hok hx (e03.va hf), F.ok.ext hok hx (e03.va hg), F.ok.ext hok hx (e03.va hh), hsem b, D.ext F.ok e03 hf, D.ext F.ok e03 hg, D.ext F.ok e03 hh]
            · obtain ⟨a1, a2, a3, a4, a5, a6⟩ := C3.ch f' g' h' r' q
              exact ⟨a1, a2, a3, a4, a5, fun b => by rw [F.ok.ext hok hx a4, F.ok.ext hok hx a1, F.ok.ext hok hx a2, F.ok.ext hok hx a3]; exact a6 b⟩
          · rw [hT]
            exact F.vr
          · have a := R0.nl
            have b := R1.nl
            have q := F.nl
            dsimp only
            omega
          · have a := R0.ml
            have b := R1.ml
            have q := F.ml
            dsimp only
            omega
          · have a := R0.cl
            have b := R1.cl
            have q := F.chs
            have z := dput_len d3.chs (f, g, h) r
            dsimp only
            rw [q] at z ⊢
            omega
end
end Bd

/-! the class Diagrams: its object -/
namespace Dgo
open PySem PySem.Spec L2 Mw
/-! ### the object -/
abbrev Sd := Int × Bd.Dg
def dflds (c : Int) (l a b : Addr) : List (Str × V) := [("_count", .int c), ("_nodes", .ref l), ("_numbers", .ref a), ("_choices", .ref b)]
structure DFacts (K : PySem.W.Frag) (C : Addr) : Prop where
  cl : Cls K C
  n_count : NoAttr K C "_count"
  n_nodes : NoAttr K C "_nodes"
  n_numbers : NoAttr K C "_numbers"
  n_choices : NoAttr K C "_choices"
def ObD (K : PySem.W.Frag) (C : Addr) (s : Sd) (v : V) (G : Hp) (O : Own) : Prop := ∃ (p dx l a b : Addr) (vs : List V) (kn kc : List (List Key × V)), v = .ref p ∧ O = [(p, .ins C dx (dflds s.1 l a b)), (l, .lst vs), (a, .dT kn), (b, .dT kc)] ∧
  RLs (rO (rX kt3)) K G vs s.2.nodes ∧ RKt kt3 zI K G kn s.2.nums ∧ RKt kt3 zI K G kc s.2.chs
theorem obD_mono {K : PySem.W.Frag} {C : Addr} : ∀ (d : Sd) (v : V) (G G' : Hp) (O : Own), Same G G' → ObD K C d v G O → ObD K C d v G' O := fun d v G G' O e ⟨p, dx, l, a, b, vs, kn, kc, h1, h2, h3, h4, h5⟩ =>
  ⟨p, dx, l, a, b, vs, kn, kc, h1, h2, h3.mono e, h4.mono e, h5.mono e⟩
theorem lk_count {c : Int} {l a b : Addr} : (dflds c l a b).lookup ("_count" : Str) = some (.int c) := by rfl
theorem lk_nodes {c : Int} {l a b : Addr} : (dflds c l a b).lookup ("_nodes" : Str) = some (.ref l) := by rfl
theorem lk_numbers {c : Int} {l a b : Addr} : (dflds c l a b).lookup ("_numbers" : Str) = some (.ref a) := by rfl
theorem lk_choices {c : Int} {l a b : Addr} : (dflds c l a b).lookup ("_choices" : Str) = some (.ref b) := by rfl
theorem nn_X {κ : Type} [DecidableEq κ] {k : Kt κ} : Nn (rX k) := fun _ _ v x ⟨p, h, _⟩ => by cases h; simp
/-- the object as a value: the count and the nodes -/
abbrev Nt := Int × Int × Int
def rDn (C : Addr) : Rp (Int × List (Option Nt)) := ⟨fun K G v s => ∃ (p dx l a b : Addr) (vs : List V), v = .ref p ∧ G p = some (.ins C dx (dflds s.1 l a b)) ∧ G l = some (.lst vs) ∧ RLs (rO (rP3 zI zI zI)) K G vs s.2,
  fun e ⟨p, dx, l, a, b, vs, h1, h2, h3, h4⟩ => ⟨p, dx, l, a, b, vs, h1, e _ _ h2, e _ _ h3, h4.mono e⟩⟩
/-- a method as its callers take it -/
structure MCal (P : Program) (w : World) (K : PySem.W.Frag) (mg : Str → Option Value) (base : Heap) (C : Addr) (x : Str) (k : Nat) (ps : List Str) (sp : Sp) where
  f : Addr
  fd : FuncData
  ok : FnOk P w K mg base (L2.CX P w) k f fd ps sp
  me : Meth K C x f
  bd : Binds K fd ps []
section
variable {K : PySem.W.Frag} {C : Addr} {fm : Fm} {σ : L2.St} {G G' H : Hp} {O La Lb : Own} {α β : Type} {te ta tb tc : TE} {R : Rp β}
theorem rX_P {v : V} {x : Nt} (h : (rX kt3).r K G v x) : (rP3 zI zI zI).r K G v x := by
  obtain ⟨p, rfl, hp⟩ := h
  exact ⟨p, _, rfl, .inl (.inl hp), _, _, rfl, rfl, _, _, rfl, rfl, _, rfl, rfl⟩
theorem rlsX {vs : List V} {xs : List (Option Nt)} (h : RLs (rO (rX kt3)) K G vs xs) : RLs (rO (rP3 zI zI zI)) K G vs xs := Paired.mapP h fun v x q => by
  cases x with
  | none => exact q
  | some y => exact ⟨q.1, rX_P q.2⟩
variable {ms : Res (Int × List (Option Nt))}
theorem e_nodes (T : DFacts K C) (h : EvE K fm te σ G O (rDn C) ms) : EvE K fm (tFld K te "_nodes") σ G O (rK (rO (rP3 zI zI zI))) (ms.bind fun s => .ok s.2) := fun G1 H1 e k Q q =>
  h G1 H1 e k _ (Res.wp_mono (Res.wp_bind q) (fun s q v G2 H2 st ⟨p, dx, l, a, b, vs, h1, h2, h3, h4⟩ => ⟨p, C, dx, _, _, h1, st.gh _ _ h2, T.cl, T.n_nodes, lk_nodes, q _ G2 H2 st ⟨l, vs, rfl, h3, h4⟩⟩) fun _ _ z => z)
theorem e_count (T : DFacts K C) (h : EvE K fm te σ G O (rDn C) ms) : EvE K fm (tFld K te "_count") σ G O zI (ms.bind fun s => .ok s.1) := fun G1 H1 e k Q q =>
  h G1 H1 e k _ (Res.wp_mono (Res.wp_bind q) (fun s q v G2 H2 st ⟨p, dx, l, a, b, vs, h1, h2, h3, h4⟩ => ⟨p, C, dx, _, _, h1, st.gh _ _ h2, T.cl, T.n_count, lk_count, q _ G2 H2 st rfl⟩) fun _ _ z => z)
/-- a method that only reads -/
theorem e_methR {mt : Str} {S : Rps α} {f : (Int × List (Option Nt)) × α → Res β} {t : TA} {a : Res α} (hl : ∀ c l a b, (dflds c l a b).lookup mt = none) (hx : EvE K fm te σ G O (rDn C) ms) (ha : EvA K fm t σ G O S a) :
    EvE K fm (tMeth C mt (spP K fm.cl (rsC (rDn C) S) R f) [] fm.E te t) σ G O R (ms.bind fun s => a.bind fun x => f (s, x)) := fun G1 H1 e k Q q =>
  hx G1 H1 e k _ (Res.wp_mono (Res.wp_bind q) (fun s q v G2 H2 st r => by
    have r0 := r
    obtain ⟨p, dx, l, a', b, vs, h1, h2, h3, h4⟩ := r
    exact ⟨p, dx, _, h1, st.gh _ _ h2, hl _ _ _ _, ha G2 H2 (e.trans st.gg) (k.stp st) _ (Res.wp_mono (Res.wp_bind q) (fun x q us G3 H3 st' r' => ⟨G3, (s, x), st'.gh, by rw [List.append_nil]; exact ⟨v, us, rfl, (rDn C).mono st'.gg r0, r'⟩,
      .mk (Res.wp_mono q (fun y q w G4 H4 s4 rv => q w G4 H4 ((st.trans st').trans s4) rv) fun c fs z H' d a b => z H' d (((k.stp st).stp st').fr.trans a) b)⟩) fun _ _ z => z)⟩) fun _ _ z => z)
/-- one's own object, lent -/
theorem e_lendD {p dx l a b : Addr} {c : Int} {vs : List V} {R : Rp β} {m : Res β} (sc : Sc R) (hp : (p, HO.ins C dx (dflds c l a b)) ∈ O) (hl : (l, HO.lst vs) ∈ O)
    (h : EvE K fm te σ (upd (upd G l (.lst vs)) p (.ins C dx (dflds c l a b))) O R m) : EvE K fm te σ G O R m := e_lend sc hl (e_lend sc hp h)
/-- what is lent, as a value -/
theorem lentD {p dx l a b : Addr} {c : Int} {vs : List V} {xs : List (Option Nt)} (hpl : p ≠ l) (hG : Same G (upd (upd G l (.lst vs)) p (.ins C dx (dflds c l a b)))) (r : RLs (rO (rX kt3)) K G vs xs) :
    (rDn C).r K (upd (upd G l (.lst vs)) p (.ins C dx (dflds c l a b))) (.ref p) (c, xs) :=
  ⟨p, dx, l, a, b, vs, rfl, upd_same, by rw [upd_ne hpl.symm]; exact upd_same, rlsX (r.mono hG)⟩
theorem e_P3T {m : Res Nt} (h : EvE K fm te σ G O (rP3 zI zI zI) m) : EvE K fm te σ G O (rT zI) (m.bind fun a => .ok [a.1, a.2.1, a.2.2]) := fun G1 H1 e k Q q =>
  h G1 H1 e k _ (Res.wp_mono (Res.wp_bind q) (fun x q v G2 H2 s r => q v G2 H2 s (by
    obtain ⟨p, vs, rfl, hT, _, _, rfl, h1, _, _, rfl, h2, _, rfl, h3⟩ := r
    exact ⟨p, _, rfl, hT, .cons h1 (.cons h2 (.cons h3 .nil))⟩)) fun _ _ z => z)
theorem e_tup3 {fm : Fm} {σ : L2.St} {G : Hp} {O : Own} {ta tb tc : TE} {a b c : Res Int} (ha : EvE K fm ta σ G O zI a) (hb : EvE K fm tb σ G O zI b) (hc : EvE K fm tc σ G O zI c) :
    EvE K fm (tTup (tCons ta (tCons tb (tCons tc tNil)))) σ G O (rX kt3) (pairM a (pairM b c)) := fun G1 H1 e k Q q =>
  ha G1 H1 e k _ (Res.wp_mono (Res.wp_bind q) (fun x q v G2 H2 s r => hb G2 H2 (e.trans s.gg) (k.stp s) _ (Res.wp_mono (Res.wp_bind (Res.wp_bind q)) (fun y q v' G3 H3 s' r' => hc G3 H3 ((e.trans s.gg).trans s'.gg) ((k.stp s).stp s') _ (Res.wp_mono (Res.wp_bind q) (fun z q v'' G4 H4 s'' r'' => by
    cases (show v = .int x from r); cases (show v' = .int y from r'); cases (show v'' = .int z from r'')
    have ss := (s.trans s').trans s''
    exact ⟨by rw [sizeLine_eq]; simp, fun p hp => q (.ref p) _ _ (ss.trans (Stp.new ss.gh hp)) ⟨p, rfl, upd_same⟩⟩) fun _ _ z => z)) fun _ _ z => z)) fun _ _ z => z)
end
end Dgo

namespace Dgo
open PySem PySem.Spec L2 Mw
/-- a new table of diagrams -/
def d0 : Bd.Dg := ⟨[none, none], [], []⟩
def spInit (K : PySem.W.Frag) (cl : Nat → Addr) (C : Addr) : Sp := fun vs H Q E => ∃ F G p dx c, vs = [.ref p, .int c] ∧ Hs ⟨F, G, E, cl⟩ G [(p, .ins C dx [])] H ∧
  ∀ G' O' H', Hs ⟨F, G, E, cl⟩ G' O' H' → ObD K C (c, d0) (.ref p) G' O' → Q .non H'
section
variable {K : PySem.W.Frag} {C : Addr}
theorem obmD : Obm (ObD K C) := obD_mono
theorem objD {mt : Str} (hl : ∀ c l a b, (dflds c l a b).lookup mt = none) : ObjM C (ObD K C) mt := fun d v G O ⟨p, dx, l, a, b, vs, kn, kc, h1, h2, _⟩ =>
  ⟨p, dx, dflds d.1 l a b, h1, h2 ▸ List.mem_cons_self .., hl _ _ _ _⟩
def roD (d : Sd) : Int × List (Option Nt) := (d.1, d.2.nodes)
theorem lendsD : Lends K (ObD K C) (rDn C) roD := fun fm d v G O O' H k sub ⟨p, dx, l, a, b, vs, kn, kc, h1, h2, h3, h4, h5⟩ => by
  have hp := k.own (p, .ins C dx (dflds d.1 l a b)) (sub _ (by rw [h2]; simp))
  have hl := k.own (l, .lst vs) (sub _ (by rw [h2]; simp))
  have hpl : p ≠ l := fun e => by rw [e] at hp; rw [hl] at hp; cases hp
  have s1 : Same G (upd G l (.lst vs)) := fun b o e => by
    by_cases q : b = l
    · subst q; rw [upd_same]; rw [← hl]; exact k.gh _ _ e
    · rw [upd_ne q]; exact e
  have s2 : Same (upd G l (.lst vs)) (upd (upd G l (.lst vs)) p (.ins C dx (dflds d.1 l a b))) := fun b o e => by
    by_cases q : b = p
    · subst q; rw [upd_same]; rw [upd_ne hpl] at e; rw [← hp]; exact k.gh _ _ e
    · rw [upd_ne q]; exact e
  refine ⟨upd (upd G l (.lst vs)) p (.ins C dx (dflds d.1 l a b)), s1.trans s2, same_updG (same_updG k.gh hl) hp, ?_⟩
  rw [h1]
  exact lentD hpl (s1.trans s2) h3
theorem spI_D {cl : Nat → Addr} (vs : List V) (H : Hp) (Q : VK) (E : XK) (h : spI K cl C (ObD K C) (rs1 zI) (fun c => .ok (c, d0)) vs H Q E) : spInit K cl C vs H Q E := by
  obtain ⟨F, G, p, dx, rest, c, rfl, hs, ⟨v, rfl, hv⟩, hm⟩ := h
  cases (show v = V.int c from hv)
  exact ⟨F, G, p, dx, c, rfl, hs, hm.out⟩
end
end Dgo
namespace Dgo
open PySem PySem.Spec L2 Mw
/-- a class as it is made -/
structure ICal (P : Program) (w : World) (K : PySem.W.Frag) (mg : Str → Option Value) (base : Heap) (C : Addr) (x : Str) (k : Nat) (ps : List Str) (sp : Sp) where
  f : Addr
  fd : FuncData
  ok : FnOk P w K mg base (L2.CX P w) k f fd ps sp
  mkc : Mk K C f
  mgC : mg x = some (.ref C)
  bd : Binds K fd ps []
/-- a method that only reads, its mirror of two arguments -/
theorem e_methR2 {α β : Type} {K : PySem.W.Frag} {C : Addr} {fm : Fm} {σ : L2.St} {G : Hp} {O : Own} {te : TE} {R : Rp β} {ms : Res (Int × List (Option Nt))} {mt : Str} {S : Rps α} {f : Int × List (Option Nt) → α → Res β} {t : TA} {a : Res α} (hl : ∀ c l a b, (dflds c l a b).lookup mt = none) (hx : EvE K fm te σ G O (rDn C) ms) (ha : EvA K fm t σ G O S a) :
    EvE K fm (tMeth C mt (spP K fm.cl (rsC (rDn C) S) R (fun a => f a.1 a.2)) [] fm.E te t) σ G O R (ms.bind fun s => a.bind fun x => f s x) := e_methR (f := fun x => f x.1 x.2) hl hx ha
end Dgo

/-! the class Diagrams: the mirrors of its methods, for every law -/
namespace Dgo
open PySem PySem.Spec L2 Mw
def m_check_bits_b4  (p_bit : Int) (s_ : Unit) : Res (Unit) :=
  match s_ with
 | () =>
  (Res.ite (andM (neM (.ok p_bit) (.ok (0 : Int))) (neM (.ok p_bit) (.ok (1 : Int))))
  (.exc 1 [])
  (.ok ()))
def m_check_bits (p_bits : (List Int)) (p_count : Int) : Res Unit :=
  (Res.ite (neM (lenM (.ok p_bits)) (.ok p_count))
  (.exc 1 [])
  (Res.bind (Res.bind (.ok p_bits) fun xs => forM m_check_bits_b4 xs ()) (fun (s_ : Unit) => match s_ with
 | () =>
  (.ok ()))))
def m_D_check_b3 (p_self : (Int × List (Option (Int × Int × Int)))) (p_number : Int) (s_ : Unit) : Res (Unit) :=
  match s_ with
 | () =>
  (Res.ite (notM (chainM (fun i j => decide (i ≤ j)) (fun i j => decide (i < j)) (.ok (0 : Int)) (.ok p_number) (lenM (Res.bind (.ok p_self) fun s => .ok s.2))))
  (.exc 0 [])
  (.ok ()))
def m_D_check (p_self : (Int × List (Option (Int × Int × Int)))) (p_numbers : (List Int)) : Res Unit :=
  (Res.bind (Res.bind (.ok p_numbers) fun xs => forM (m_D_check_b3 p_self) xs ()) (fun (s_ : Unit) => match s_ with
 | () =>
  (.ok ())))
def m_D_top (p_self : (Int × List (Option (Int × Int × Int)))) (p_numbers : (List Int)) : Res Int :=
  (maxM (lcB (fun (x1 : Int) => (gtM (.ok x1) (.ok (1 : Int)))) (fun (x1 : Int) => (Res.bind (Res.bind (idxM (Res.bind (.ok p_self) fun s => .ok s.2) (.ok x1)) getM) fun a => .ok a.1)) (.ok p_numbers)))
def m_D_side (p_self : (Int × List (Option (Int × Int × Int)))) (p_number : Int) (p_variable : Int) (p_bit : Int) : Res Int :=
  (Res.ite (orM (leM (.ok p_number) (.ok (1 : Int))) (neM (Res.bind (Res.bind (idxM (Res.bind (.ok p_self) fun s => .ok s.2) (.ok p_number)) getM) fun a => .ok a.1) (.ok p_variable)))
  (.ok p_number)
  (idxM (Res.bind (Res.bind (idxM (Res.bind (.ok p_self) fun s => .ok s.2) (.ok p_number)) getM) fun a => .ok [a.1, a.2.1, a.2.2]) (addM (.ok (1 : Int)) (.ok p_bit))))
def m_D_node (p_self : (Int × List (Option (Int × Int × Int)))) (p_number : Int) : Res (Int × Int × Int) :=
  (Res.ite (leM (.ok p_number) (.ok (1 : Int)))
  (.exc 0 [])
  (Res.bind (Res.bind (.ok p_self) fun s => Res.bind (consM (.ok p_number) (.ok [])) fun a => m_D_check s a) fun _ =>
  (Res.bind (idxM (Res.bind (.ok p_self) fun s => .ok s.2) (.ok p_number)) getM)))
def m_D_value_b6 (p_self : (Int × List (Option (Int × Int × Int)))) (p_bits : (List Int)) (p_f : Int) : Res (Tn (Int) Int) :=
  (Res.bind (Res.bind (idxM (Res.bind (.ok p_self) fun s => .ok s.2) (.ok p_f)) getM) fun (p : (Int × Int × Int)) => match p with
 | (p_variable, p_low, p_high) =>
  (Res.bind (Res.ite (eqM (idxM (.ok p_bits) (.ok p_variable)) (.ok (1 : Int))) (.ok p_high) (.ok p_low)) fun (p_f : Int) =>
  (.ok (.nx p_f))))
def m_D_value (p_self : (Int × List (Option (Int × Int × Int)))) (p_f : Int) (p_bits : (List Int)) : Res Int :=
  (Res.bind (Res.bind (.ok p_self) fun s => Res.bind (consM (.ok p_f) (.ok [])) fun a => m_D_check s a) fun _ =>
  (Res.bind (Res.bind (pairM (.ok p_bits) (Res.bind (.ok p_self) fun s => .ok s.1)) fun a => m_check_bits (a.1) (a.2)) fun _ =>
  (Res.bind (whB (fun (p_f : Int) => (gtM (.ok p_f) (.ok (1 : Int)))) (m_D_value_b6 p_self p_bits) (p_self.2.length + 1) p_f) (Lp.el (fun (p_f : Int) => (.ok p_f)) (fun _ => .stuck)))))
def m_D_first_case_b10 (p_self : (Int × List (Option (Int × Int × Int)))) (s_ : Int × Int) : Res (Tn (Int × Int) (Option Int)) :=
  match s_ with
 | (p_case, p_f) =>
  (Res.bind (Res.bind (idxM (Res.bind (.ok p_self) fun s => .ok s.2) (.ok p_f)) getM) fun (p : (Int × Int × Int)) => match p with
 | (p_variable, p_low, p_high) =>
  (Res.ite (eqM (.ok p_low) (.ok (0 : Int)))
  (augM (fun i j => i + j) p_case (shlM (.ok (1 : Int)) (.ok p_variable)) fun p_case =>
  (Res.bind (.ok p_high) fun (p_f : Int) =>
  (.ok (.nx (p_case, p_f)))))
  (Res.bind (.ok p_low) fun (p_f : Int) =>
  (.ok (.nx (p_case, p_f))))))
def m_D_first_case (p_self : (Int × List (Option (Int × Int × Int)))) (p_f : Int) : Res (Option Int) :=
  (Res.bind (Res.bind (.ok p_self) fun s => Res.bind (consM (.ok p_f) (.ok [])) fun a => m_D_check s a) fun _ =>
  (Res.ite (eqM (.ok p_f) (.ok (0 : Int)))
  (.ok none)
  (Res.bind (.ok (0 : Int)) fun (p_case : Int) =>
  (Res.bind (whB (fun (s_ : Int × Int) => match s_ with
 | (p_case, p_f) =>
  (gtM (.ok p_f) (.ok (1 : Int)))) (m_D_first_case_b10 p_self) (p_self.2.length + 1) (p_case, p_f)) (Lp.el (fun (s_ : Int × Int) => match s_ with
 | (p_case, p_f) =>
  (someM (.ok p_case))) (fun _ => .stuck))))))
def mD_found (s : Sd) (v lo hi : Int) : Res (Int × Sd) :=
  Res.ite (eqM (.ok lo) (.ok hi)) (.ok (lo, s))
    (Res.bind (.ok (v, lo, hi)) fun node =>
      Res.ite (notM (dinM s.2.nums (.ok node)))
        (dputM s.2.nums (.ok node) (lenM (.ok s.2.nodes)) fun nums =>
          appM s.2.nodes (someM (.ok node)) fun nodes =>
            (dgetM nums (.ok node)).bind fun r => .ok (r, (s.1, ⟨nodes, nums, s.2.chs⟩)))
        ((dgetM s.2.nums (.ok node)).bind fun r => .ok (r, s)))
def mD_choose (mc : Sd → Int → Int → Int → Res (Int × Sd)) (s : Sd) (f g h : Int) : Res (Int × Sd) :=
  (m_D_check (s.1, s.2.nodes) [f, g, h]).bind fun _ => mc s f g h
def mD_negate (ch : Sd → Int → Int → Int → Res (Int × Sd)) (s : Sd) (p_f : Int) : Res (Int × Sd) := ch s p_f (0 : Int) (1 : Int)
def mD_both (ch : Sd → Int → Int → Int → Res (Int × Sd)) (s : Sd) (p_f : Int) (p_g : Int) : Res (Int × Sd) := ch s p_f p_g (0 : Int)
def mD_either (ch : Sd → Int → Int → Int → Res (Int × Sd)) (s : Sd) (p_f : Int) (p_g : Int) : Res (Int × Sd) := ch s p_f (1 : Int) p_g
def mD_variable (s : Sd) (i : Int) : Res (Int × Sd) :=
  Res.ite (notM (chainM (fun i j => decide (i ≤ j)) (fun i j => decide (i < j)) (.ok (0 : Int)) (.ok i) (.ok s.1))) (.exc 0 []) (mD_found s i 0 1)
def mD_chosen_b (mc : Sd → Int → Int → Int → Res (Int × Sd)) (f g h top bit : Int) (x : List Int × Sd) : Res (List Int × Sd) :=
  if x.1.length < lim then
  (lcB (fun (x1 : Int) => .ok true) (fun (x1 : Int) => (Res.bind (.ok (x.2.1, x.2.2.nodes)) fun s => Res.bind (pairM (.ok x1) (pairM (.ok top) (.ok bit))) fun a => m_D_side s (a.1) (a.2.1) (a.2.2))) (consM (.ok f) (consM (.ok g) (consM (.ok h) (.ok []))))).bind fun parts =>
  ((pairM (idxM (.ok parts) (.ok 0)) (pairM (idxM (.ok parts) (.ok 1)) (idxM (.ok parts) (.ok 2)))).bind fun a => mc x.2 a.1 a.2.1 a.2.2).bind fun y => .ok (x.1 ++ [y.1], y.2)
  else .stuck
def key3 (f g h : Int) : Res (Int × Int × Int) := pairM (.ok f) (pairM (.ok g) (.ok h))
def mD_chosen : Nat → Sd → Int → Int → Int → Res (Int × Sd)
  | 0, _, _, _, _ => .stuck
  | n + 1, s, f, g, h =>
    Res.ite (orM (eqM (.ok f) (.ok (1 : Int))) (eqM (.ok g) (.ok h))) (.ok (g, s))
    (Res.ite (eqM (.ok f) (.ok (0 : Int))) (.ok (h, s))
    (Res.ite (notM (dinM s.2.chs (key3 f g h)))
      ((m_D_top (s.1, s.2.nodes) [f, g, h]).bind fun top =>
      (Res.bind (rng1M (.ok (2 : Int))) fun xs => forM (mD_chosen_b (mD_chosen n) f g h top) xs ([], s)).bind fun x =>
      ((pairM (.ok top) (pairM (idxM (.ok x.1) (.ok 0)) (idxM (.ok x.1) (.ok 1)))).bind fun a => mD_found x.2 a.1 a.2.1 a.2.2).bind fun y =>
      dputM y.2.2.chs (key3 f g h) (.ok y.1) fun chs => (dgetM chs (key3 f g h)).bind fun r => .ok (r, (y.2.1, (⟨y.2.2.nodes, y.2.2.nums, chs⟩ : Bd.Dg))))
      ((dgetM s.2.chs (key3 f g h)).bind fun r => .ok (r, s))))

/-- how deep `_chosen` may go -/
def dpt : Nat := 12
def m_D_found (s : Sd) (v lo hi : Int) : Res (Int × Sd) := mD_found s v lo hi
def m_D_chosen (s : Sd) (f g h : Int) : Res (Int × Sd) := mD_chosen dpt s f g h
def m_D_choose (s : Sd) (f g h : Int) : Res (Int × Sd) := mD_choose (mD_chosen dpt) s f g h
def m_D_negate (s : Sd) (f : Int) : Res (Int × Sd) := mD_negate m_D_choose s f
def m_D_both (s : Sd) (f g : Int) : Res (Int × Sd) := mD_both m_D_choose s f g
def m_D_either (s : Sd) (f g : Int) : Res (Int × Sd) := mD_either m_D_choose s f g
def m_D_variable (s : Sd) (i : Int) : Res (Int × Sd) := mD_variable s i
def m_D_init (c : Int) : Res Sd := .ok (c, d0)
end Dgo

/-! what all laws draw by: mirrors and facts -/
namespace Mw
open PySem L2
def m_law_far (p_script : (List Int)) (p_k : Int) : Res Int :=
  (Res.ite (eqM (lenM (.ok p_script)) (.ok (0 : Int)))
  (addM (mulM (.ok (97 : Int)) (.ok p_k)) (.ok (5 : Int)))
  (Res.ite (ltM (.ok p_k) (lenM (.ok p_script)))
  (idxM (.ok p_script) (.ok p_k))
  (addM (idxM (.ok p_script) (modM (Res.bind (.ok p_k) .ok) (lenM (.ok p_script)))) (mulM (.ok (1000003 : Int)) (.ok p_k)))))
def m_law_parts_b11 (p_cell : Int) (p_sizes : (List Int)) (p_k : Int) (s_ : (List Int) × Int) : Res ((List Int) × Int) :=
  match s_ with
 | (p_parts, p_rest) =>
  (Res.ite (geM (.ok p_rest) (.ok (0 : Int)))
  (appM p_parts (modM (Res.bind (.ok p_rest) .ok) (idxM (.ok p_sizes) (.ok p_k))) fun p_parts =>
  (Res.bind (fdivM (.ok p_rest) (idxM (.ok p_sizes) (.ok p_k))) fun (p_rest : Int) =>
  (.ok (p_parts, p_rest))))
  (Res.bind (modM (Res.bind (addM (addM (mulM (.ok p_cell) (.ok (48271 : Int))) (mulM (.ok p_k) (.ok (69621 : Int)))) (.ok (11 : Int))) .ok) (.ok (2147483647 : Int))) fun (p_mixed : Int) =>
  (Res.bind (modM (Res.bind (addM (addM (mulM (.ok p_mixed) (.ok p_mixed)) (mulM (.ok (16807 : Int)) (.ok p_k))) (.ok (5 : Int))) .ok) (.ok (998244353 : Int))) fun (p_mixed : Int) =>
  (appM p_parts (modM (Res.bind (.ok p_mixed) .ok) (idxM (.ok p_sizes) (.ok p_k))) fun p_parts =>
  (.ok (p_parts, p_rest))))))
def m_law_parts (p_cell : Int) (p_sizes : (List Int)) : Res (List Int) :=
  (Res.bind (.ok []) fun (p_parts : (List Int)) =>
  (Res.bind (subM (.ok p_cell) (powM (.ok (10 : Int)) (.ok (18 : Int)))) fun (p_rest : Int) =>
  (Res.bind (Res.bind (rng1M (lenM (.ok p_sizes))) fun xs => forM (m_law_parts_b11 p_cell p_sizes) xs (p_parts, p_rest)) (fun (s_ : (List Int) × Int) => match s_ with
 | (p_parts, p_rest) =>
  (.ok p_parts)))))
def m_law_is_integer (p_actual : (Option Int)) : Res Bool :=
  (andM (Res.bind (.ok p_actual) fun o => .ok (o.isSome)) (notM (Res.bind (.ok p_actual) fun o => .ok (false))))
def m_law_bits (p_number : Int) (p_count : Int) : Res (List Int) :=
  (lcB (fun (x1 : Int) => .ok true) (fun (x1 : Int) => (modM (fdivM (Res.bind (.ok p_number) .ok) (shlM (.ok (1 : Int)) (.ok x1))) (.ok (2 : Int)))) (rng1M (.ok p_count)))

theorem ltM_ok (a b : Int) : ltM (.ok a) (.ok b) = .ok (decide (a < b)) := rfl
theorem leM_ok (a b : Int) : leM (.ok a) (.ok b) = .ok (decide (a ≤ b)) := rfl
theorem gtM_ok (a b : Int) : gtM (.ok a) (.ok b) = .ok (decide (b < a)) := rfl
theorem geM_ok (a b : Int) : geM (.ok a) (.ok b) = .ok (decide (b ≤ a)) := rfl
theorem isint (x : Int) : m_law_is_integer (some x) = .ok true := rfl
theorem far (script : List Int) (hl : script.length ≤ 1000) {k : Int} (hk : 0 ≤ k ∧ k ≤ 1000000) : ∃ x, m_law_far script k = .ok x := by
  unfold m_law_far
  rw [lenM_ok, eqM_ok, bif_eq]
  split
  · exact ⟨_, by rw [mul_ok (by left; decide), addM_ok]⟩
  · rename_i h0
    have hp : 0 < script.length := by
      cases script with
      | nil => exact absurd rfl h0
      | cons a b => simp
    show ∃ x, Res.ite (.ok (decide (k < (script.length : Int)))) _ _ = .ok x
    rw [bif_eq]
    split
    · rename_i h1
      exact ⟨_, idxM_gx hk.1 (of_decide_eq_true h1)⟩
    · rw [Res.bind_ok, mod_ok (by omega), idxM_gx (Int.emod_nonneg _ (by omega)) (Int.emod_lt_of_pos _ (by omega)), mul_ok (by left; decide), addM_ok]
      exact ⟨_, rfl⟩
theorem parts (cell : Int) {sizes : List Int} (hl : sizes.length ≤ 1000) (hz : ∀ x ∈ sizes, 0 < x ∧ x < 1000000) : ∃ ps : List Int, m_law_parts cell sizes = .ok ps ∧ ps.length = sizes.length ∧ ∀ i : Int, 0 ≤ i ∧ i < sizes.length → 0 ≤ gx ps i ∧ gx ps i < gx sizes i := by
  have hb := lim_big
  unfold m_law_parts
  have ep : powM (.ok (10 : Int)) (.ok (18 : Int)) = .ok (10 ^ 18) := by
    have : cpow 10 18 = true := by decide
    show (if cpow 10 18 = true then Res.ok ((10 : Int) ^ (18 : Int).toNat) else .stuck) = _
    rw [if_pos this]; rfl
  rw [Res.bind_ok, ep, subM_ok, Res.bind_ok, lenM_ok, rng1_ok (by omega), Res.bind_ok]
  obtain ⟨⟨ps, rest⟩, e, h1, h2⟩ := forM_rng (f := m_law_parts_b11 cell sizes) (fun k (x : List Int × Int) => x.1.length = k ∧ ∀ i : Int, 0 ≤ i ∧ i < k → 0 ≤ gx x.1 i ∧ gx x.1 i < gx sizes i) (n := sizes.length) (s := ([], cell - 10 ^ 18)) ⟨rfl, fun i hi => by omega⟩ 0 fun k ⟨ps, rest⟩ hk ⟨h1, h2⟩ => by
    dsimp only at h1 h2
    have hs : 0 ≤ (0 : Int) + (k : Int) ∧ (0 : Int) + (k : Int) < sizes.length := ⟨by omega, by omega⟩
    have hz' := hz _ (gx_mem hs.1 hs.2)
    have put : ∀ y : Int, 0 ≤ y ∧ y < gx sizes (0 + (k : Int)) → (ps ++ [y]).length = k + 1 ∧ ∀ i : Int, 0 ≤ i ∧ i < ((k + 1 : Nat) : Int) → 0 ≤ gx (ps ++ [y]) i ∧ gx (ps ++ [y]) i < gx sizes i := fun y hy => by
      refine ⟨by rw [List.length_append, h1]; rfl, fun i hi => ?_⟩
      obtain ⟨n, rfl⟩ := Int.eq_ofNat_of_zero_le hi.1
      by_cases hn : n < k
      · have := h2 (n : Int) ⟨hi.1, by omega⟩
        rw [gx_nat (by rw [h1]; exact hn)] at this
        rw [gx_nat (by rw [List.length_append, h1]; omega), List.getElem_append_left (by rw [h1]; exact hn)]
        exact this
      · have en : n = k := by omega
        subst en
        rw [gx_nat (by rw [List.length_append, h1]; simp), List.getElem_append_right (by omega)]
        rw [Int.zero_add] at hy
        simpa [h1] using hy
    unfold m_law_parts_b11
    dsimp only
    show ∃ s', Res.ite (.ok (decide (rest ≥ 0))) _ _ = .ok s' ∧ _
    rw [bif_eq]
    split
    · rw [idxM_gx hs.1 hs.2, Res.bind_ok, mod_ok hz'.1, appM_ok _ _ _ (by rw [h1]; omega), fdiv_ok hz'.1 (by omega), Res.bind_ok]
      exact ⟨_, rfl, put _ ⟨Int.emod_nonneg _ (by omega), Int.emod_lt_of_pos _ hz'.1⟩⟩
    · rw [mul_ok (by right; decide), mul_ok (by right; decide), addM_ok, addM_ok, Res.bind_ok, mod_ok (by decide), Res.bind_ok]
      have m0 : 0 ≤ (cell * 48271 + (0 + (k : Int)) * 69621 + 11) % 2147483647 := Int.emod_nonneg _ (by decide)
      have m1 : (cell * 48271 + (0 + (k : Int)) * 69621 + 11) % 2147483647 < 2147483647 := Int.emod_lt_of_pos _ (by decide)
      generalize (cell * 48271 + (0 + (k : Int)) * 69621 + 11) % 2147483647 = q at m0 m1
      rw [mul_ok (by left; omega), mul_ok (by left; decide), addM_ok, addM_ok, Res.bind_ok, mod_ok (by decide), Res.bind_ok, idxM_gx hs.1 hs.2, Res.bind_ok, mod_ok hz'.1, appM_ok _ _ _ (by rw [h1]; omega)]
      exact ⟨_, rfl, put _ ⟨Int.emod_nonneg _ (by omega), Int.emod_lt_of_pos _ hz'.1⟩⟩
  dsimp only at h1 h2
  exact ⟨ps, by rw [e, Res.bind_ok], h1, h2⟩
/-- the bits of a number -/
def bitsL (n : Int) (c : Nat) : List Int := (List.range c).map fun k => n / ((2 ^ k : Nat) : Int) % 2
theorem bitsL_length (n : Int) (c : Nat) : (bitsL n c).length = c := by simp [bitsL]
theorem bitsL_get (n : Int) {c i : Nat} (h : i < c) : (bitsL n c)[i]? = some (n / ((2 ^ i : Nat) : Int) % 2) := by simp [bitsL, h]
theorem bitsL_gx (n : Int) {c : Nat} {i : Int} (h0 : 0 ≤ i) (h : i < c) : gx (bitsL n c) i = n / ((2 ^ i.toNat : Nat) : Int) % 2 := by
  unfold gx
  rw [bitsL_get n (show i.toNat < c by omega)]; rfl
theorem bitsL_01 (n : Int) (c : Nat) : ∀ x ∈ bitsL n c, x = 0 ∨ x = 1 := fun x hx => by
  obtain ⟨k, _, rfl⟩ := List.mem_map.mp hx
  omega
theorem bits_eq (n : Int) {c : Nat} (hc : c ≤ 20) : m_law_bits n (c : Int) = .ok (bitsL n c) := by
  unfold m_law_bits
  rw [rng1_ok (by omega)]
  have : bitsL n c = (rgL 0 c).map fun k => n / ((2 ^ k.toNat : Nat) : Int) % 2 := by
    unfold bitsL rgL
    rw [List.map_map]
    apply List.map_congr_left
    intro k _
    simp
  rw [this]
  refine lcB_map _ (by rw [rgL_length]; omega) fun x hx => ?_
  obtain ⟨h0, h1⟩ := mem_rgL.mp hx
  obtain ⟨k, rfl⟩ := Int.eq_ofNat_of_zero_le h0
  have p : 0 < 2 ^ k := Nat.pow_pos (by decide)
  have q : 2 ^ k ≤ 2 ^ 20 := Nat.pow_le_pow_right (by decide) (by omega)
  rw [shl1_ok (by omega), Res.bind_ok, fdiv_ok (by omega) (by omega), mod_ok (by omega)]
  simp
theorem repC_ok {α : Type} (xs : List α) {n : Nat} (hn : n ≤ 1000000) (hx : xs.length * n ≤ 1000000) : repM (.ok xs) (.ok (n : Int)) = .ok (List.replicate n xs).flatten := by
  have hb := lim_big
  have h1 : (decide (-(2 ^ 63) ≤ (n : Int)) && decide ((n : Int) < 2 ^ 63) && decide (xs.length * (n : Int).toNat ≤ lim)) = true := by
    have q1 : (-(2 ^ 63) : Int) ≤ 0 := by decide
    have q2 : (1000001 : Int) < 2 ^ 63 := by decide
    rw [decide_eq_true (Int.le_trans q1 (by omega)), decide_eq_true (Int.lt_trans (by omega) q2), decide_eq_true]
    · rfl
    · rw [Int.toNat_natCast]; omega
  unfold repM
  rw [Res.bind2_ok]
  unfold repF
  rw [if_pos h1, Int.toNat_natCast]
theorem rep1_ok {α : Type} (a : α) {n : Nat} (hn : n ≤ 1000000) : repM (.ok [a]) (.ok (n : Int)) = .ok (List.replicate n a) := by
  rw [repC_ok [a] hn (by simpa using hn)]
  congr 1
  induction n with
  | zero => rfl
  | succ n ih => rw [List.replicate_succ, List.flatten_cons, ih (by omega), List.replicate_succ]; rfl
theorem catM_ok {α : Type} (xs ys : List α) (h : xs.length + ys.length ≤ 1000000) : catM (.ok xs) (.ok ys) = .ok (xs ++ ys) := by
  have hb := lim_big
  unfold catM
  rw [Res.bind2_ok]
  unfold catF
  rw [if_pos (by omega)]
theorem lrg1_ok {n : Nat} (h : n < 1000000) : lrg1M (.ok (n : Int)) = .ok (rgL 0 n) := by
  have hb := lim_big
  have a : (-(2 ^ 62) : Int) ≤ 0 := by decide
  have b : (1000000 : Int) < 2 ^ 62 := by decide
  have e : rgOk 0 (n : Int) = true := by
    unfold rgOk inR
    have q : (((n : Int) - 0).toNat ≤ lim) := by omega
    have z : (0 : Int) < 2 ^ 62 := by decide
    have w : (-(2 ^ 62) : Int) ≤ (n : Int) := Int.le_trans a (by omega)
    have w2 : (n : Int) < 2 ^ 62 := Int.lt_trans (show (n : Int) < 1000000 by omega) b
    simp only [Bool.and_eq_true, decide_eq_true_eq]
    exact ⟨⟨⟨a, z⟩, w, w2⟩, q⟩
  unfold lrg1M
  rw [Res.bind_ok, if_pos e, Int.toNat_natCast]
theorem insF_ok {α : Type} (xs : List α) (y : α) (h : xs.length < 1000000) : insF xs 0 y = .ok (y :: xs) := by
  have hb := lim_big
  have z : (0 : Int) < 2 ^ 62 := by decide
  unfold insF
  rw [if_pos ⟨Nat.lt_trans h hb, Int.le_refl 0, z⟩]
  rfl
theorem insM_ok {α ρ : Type} (xs : List α) (y : α) (mk : List α → Res ρ) (h : xs.length < 1000000) : insM xs (.ok 0) (.ok y) mk = mk (y :: xs) := by
  unfold insM
  rw [Res.bind_ok, Res.bind_ok, insF_ok xs y h, Res.bind_ok]
theorem all_rgL {n : Nat} {p : Int → Bool} : (rgL 0 n).all p = true ↔ ∀ k : Nat, k < n → p (k : Int) = true := by
  rw [List.all_eq_true]
  constructor
  · intro h k hk
    exact h _ (mem_rgL.mpr ⟨by omega, by omega⟩)
  · intro h x hx
    obtain ⟨h0, h1⟩ := mem_rgL.mp hx
    obtain ⟨k, rfl⟩ := Int.eq_ofNat_of_zero_le h0
    exact h k (by omega)
theorem rgL_map_succ (n : Nat) (i : Int) : rgL (i + 1) n = (rgL i n).map (· + 1) := by
  unfold rgL
  rw [List.map_map]
  apply List.map_congr_left
  intro k _
  simp only [Function.comp]
  omega
theorem gx_succ {α : Type} [Inhabited α] (x : α) (xs : List α) {i : Int} (h : 0 ≤ i) : gx (x :: xs) (i + 1) = gx xs i := by
  unfold gx
  rw [show (i + 1).toNat = i.toNat + 1 by omega, List.getElem?_cons_succ]
theorem gx_zero {α : Type} [Inhabited α] (x : α) (xs : List α) : gx (x :: xs) 0 = x := rfl
end Mw

namespace Dgo
open PySem PySem.Spec L2 Mw
def x_D_found (s : Sd) (v lo hi : Int) : Xs Int Sd := liftX (mD_found s v lo hi)
def x_D_chosen (s : Sd) (f g h : Int) : Xs Int Sd := liftX (mD_chosen dpt s f g h)
/-- a method that only reads, without arguments -/
theorem e_methR0 {β : Type} {K : PySem.W.Frag} {C : Addr} {fm : Fm} {σ : L2.St} {G : Hp} {O : Own} {te : TE} {R : Rp β} {ms : Res (Int × List (Option Nt))} {mt : Str} {f : Int × List (Option Nt) → Res β} (hl : ∀ c l a b, (dflds c l a b).lookup mt = none) (hx : EvE K fm te σ G O (rDn C) ms) :
    EvE K fm (tMeth C mt (spP K fm.cl (rs1 (rDn C)) R f) [] fm.E te tNil) σ G O R (ms.bind f) := fun G1 H1 e k Q q =>
  hx G1 H1 e k _ (Res.wp_mono (Res.wp_bind q) (fun s q v G2 H2 st r => by
    have r0 := r
    obtain ⟨p, dx, l, a', b, vs, h1, h2, h3, h4⟩ := r
    exact ⟨p, dx, _, h1, st.gh _ _ h2, hl _ _ _ _, G2, s, st.gh, by rw [List.append_nil]; exact ⟨v, rfl, r0⟩,
      .mk (Res.wp_mono q (fun y q w G4 H4 s4 rv => q w G4 H4 (st.trans s4) rv) fun c fs z H' d a b => z H' d ((k.stp st).fr.trans a) b)⟩) fun _ _ z => z)
end Dgo

/-! the methods of a table of diagrams, with what they raise: mirrors that all laws share -/
namespace Dgo
open PySem L2 Mw
def m_D_size (p_self : (Int × List (Option (Int × Int × Int)))) : Res Int :=
  (lenM (Res.bind (.ok p_self) fun s => .ok s.2))
def x_D_variable (p_self : Sd) (p_i : Int) : Res (Xr Int × Sd) :=
  (Res.ite (notM (chainM (fun i j => decide (i ≤ j)) (fun i j => decide (i < j)) (.ok (0 : Int)) (.ok p_i) (Res.bind (.ok (roD p_self)) fun s => .ok s.1)))
  (exX 0 [] p_self)
  (bindK ((callX (pairX (pureX fun _ => (.ok p_i)) (pairX (pureX fun _ => (.ok (0 : Int))) (pureX fun _ => (.ok (1 : Int))))) fun s a => x_D_found s (a.1) (a.2.1) (a.2.2)) p_self) exX fun r d => .ok (Xr.ok r, d)))
def x_D_choose (p_self : Sd) (p_f : Int) (p_g : Int) (p_h : Int) : Res (Xr Int × Sd) :=
  (bindK ((pureX fun dP1 => (Res.bind (.ok (roD dP1)) fun s => Res.bind (consM (.ok p_f) (consM (.ok p_g) (consM (.ok p_h) (.ok [])))) fun a => m_D_check s a)) p_self) exX fun (_ : Unit) (p_self : Sd) =>
  (bindK ((callX (pairX (pureX fun _ => (.ok p_f)) (pairX (pureX fun _ => (.ok p_g)) (pureX fun _ => (.ok p_h)))) fun s a => x_D_chosen s (a.1) (a.2.1) (a.2.2)) p_self) exX fun r d => .ok (Xr.ok r, d)))
def x_D_negate (p_self : Sd) (p_f : Int) : Res (Xr Int × Sd) :=
  (bindK ((callX (pairX (pureX fun _ => (.ok p_f)) (pairX (pureX fun _ => (.ok (0 : Int))) (pureX fun _ => (.ok (1 : Int))))) fun s a => x_D_choose s (a.1) (a.2.1) (a.2.2)) p_self) exX fun r d => .ok (Xr.ok r, d))
def x_D_both (p_self : Sd) (p_f : Int) (p_g : Int) : Res (Xr Int × Sd) :=
  (bindK ((callX (pairX (pureX fun _ => (.ok p_f)) (pairX (pureX fun _ => (.ok p_g)) (pureX fun _ => (.ok (0 : Int))))) fun s a => x_D_choose s (a.1) (a.2.1) (a.2.2)) p_self) exX fun r d => .ok (Xr.ok r, d))
def x_D_either (p_self : Sd) (p_f : Int) (p_g : Int) : Res (Xr Int × Sd) :=
  (bindK ((callX (pairX (pureX fun _ => (.ok p_f)) (pairX (pureX fun _ => (.ok (1 : Int))) (pureX fun _ => (.ok p_g)))) fun s a => x_D_choose s (a.1) (a.2.1) (a.2.2)) p_self) exX fun r d => .ok (Xr.ok r, d))
def x_product_function_b6  (x_ : (Int × Int)) (s_ : Int × Sd) : Res (Tn (Int × Sd) (Xr Int × Sd)) :=
  match x_ with
 | (p_variable, p_mark) =>
  match s_ with
 | (p_node, p_diagrams) =>
  (Res.ite (neM (.ok p_mark) (.ok (2 : Int)))
  (bindK ((callX (pureX fun _ => (.ok p_variable)) fun s a => x_D_variable s a) p_diagrams) exT fun (p_literal : Int) (p_diagrams : Sd) =>
  (bindK ((callX (pairX (pureX fun _ => (.ok p_node)) (iteX (pureX fun _ => (eqM (.ok p_mark) (.ok (1 : Int)))) (pureX fun _ => (.ok p_literal)) (callX (pureX fun _ => (.ok p_literal)) fun s a => x_D_negate s a))) fun s a => x_D_both s (a.1) (a.2)) p_diagrams) exT fun (p_node : Int) (p_diagrams : Sd) =>
  (.ok (.nx (p_node, p_diagrams)))))
  (.ok (.nx (p_node, p_diagrams))))
def x_product_function (p_diagrams : Sd) (p_product : (List Int)) : Res (Xr Int × Sd) :=
  (Res.bind (.ok (1 : Int)) fun (p_node : Int) =>
  (Res.bind (Res.bind (enumM (.ok p_product)) fun xs => forB x_product_function_b6 xs (p_node, p_diagrams)) (Lp.el (fun (s_ : Int × Sd) => match s_ with
 | (p_node, p_diagrams) =>
  (bindK ((pureX fun _ => (.ok p_node)) p_diagrams) exX fun r d => .ok (Xr.ok r, d))) (fun r => .ok r))))
def x_cover_function_b4  (p_product : (List Int)) (s_ : Int × Sd) : Res (Tn (Int × Sd) (Xr Int × Sd)) :=
  match s_ with
 | (p_node, p_diagrams) =>
  (bindK ((callX (pairX (pureX fun _ => (.ok p_node)) (callX (pureX fun _ => (.ok p_product)) fun s a => x_product_function s a)) fun s a => x_D_either s (a.1) (a.2)) p_diagrams) exT fun (p_node : Int) (p_diagrams : Sd) =>
  (.ok (.nx (p_node, p_diagrams))))
def x_cover_function (p_diagrams : Sd) (p_cover : (List (List Int))) : Res (Xr Int × Sd) :=
  (Res.bind (.ok (0 : Int)) fun (p_node : Int) =>
  (Res.bind (Res.bind (.ok p_cover) fun xs => forB x_cover_function_b4 xs (p_node, p_diagrams)) (Lp.el (fun (s_ : Int × Sd) => match s_ with
 | (p_node, p_diagrams) =>
  (bindK ((pureX fun _ => (.ok p_node)) p_diagrams) exX fun r d => .ok (Xr.ok r, d))) (fun r => .ok r))))
def x_without (p_diagrams : Sd) (p_f : Int) (p_g : Int) : Res (Xr Int × Sd) :=
  (bindK ((callX (pairX (pureX fun _ => (.ok p_g)) (pairX (pureX fun _ => (.ok (0 : Int))) (pureX fun _ => (.ok p_f)))) fun s a => x_D_choose s (a.1) (a.2.1) (a.2.2)) p_diagrams) exX fun r d => .ok (Xr.ok r, d))
def m_with_mark (p_product : (List Int)) (p_place : Int) (p_mark : Int) : Res (List Int) :=
  (catM (catM (sliceM (.ok p_product) (.ok none) (someM (.ok p_place))) (consM (.ok p_mark) (.ok []))) (sliceM (.ok p_product) (someM (addM (.ok p_place) (.ok (1 : Int)))) (.ok none)))
def m_check_place (p_items : Int) (p_place : Int) : Res Unit :=
  (Res.ite (notM (chainM (fun i j => decide (i ≤ j)) (fun i j => decide (i < j)) (.ok (0 : Int)) (.ok p_place) (Res.bind (.ok p_items) .ok)))
  (.exc 0 [])
  (.ok ()))
def x_check_node (p_diagrams : Sd) (p_number : Int) : Res (Xr Unit × Sd) :=
  (bindK ((callX (pairX (pureX fun _ => (.ok (1 : Int))) (pairX (pureX fun _ => (.ok p_number)) (pureX fun _ => (.ok (0 : Int))))) fun s a => x_D_choose s (a.1) (a.2.1) (a.2.2)) p_diagrams) exX fun (_ : Int) (p_diagrams : Sd) =>
  (.ok (Xr.ok (), p_diagrams)))
def x_lies_within (p_diagrams : Sd) (p_product : (List Int)) (p_high : Int) : Res (Xr Bool × Sd) :=
  (bindK ((callX (pureX fun _ => (.ok p_high)) fun s a => x_check_node s a) p_diagrams) exX fun (_ : Unit) (p_diagrams : Sd) =>
  (bindK ((map2X (callX (pairX (callX (pureX fun _ => (.ok p_product)) fun s a => x_product_function s a) (pureX fun _ => (.ok p_high))) fun s a => x_without s (a.1) (a.2)) (pureX fun _ => (.ok (0 : Int))) (fun (y2_0 : Int) (y2_1 : Int) => (eqM (.ok y2_0) (.ok y2_1)))) p_diagrams) exX fun r d => .ok (Xr.ok r, d)))
def x_beyond_case (p_diagrams : Sd) (p_product : (List Int)) (p_place : Int) (p_high : Int) : Res (Xr (Option Int) × Sd) :=
  (bindK ((callX (pureX fun _ => (.ok p_high)) fun s a => x_check_node s a) p_diagrams) exX fun (_ : Unit) (p_diagrams : Sd) =>
  (bindK ((pureX fun _ => (Res.bind (pairM (lenM (.ok p_product)) (.ok p_place)) fun a => m_check_place (a.1) (a.2))) p_diagrams) exX fun (_ : Unit) (p_diagrams : Sd) =>
  (bindK ((callX (pureX fun _ => (Res.bind (pairM (.ok p_product) (pairM (.ok p_place) (.ok (2 : Int)))) fun a => m_with_mark (a.1) (a.2.1) (a.2.2))) fun s a => x_product_function s a) p_diagrams) exX fun (p_larger : Int) (p_diagrams : Sd) =>
  (bindK ((readX (callX (pairX (pureX fun _ => (.ok p_larger)) (pureX fun _ => (.ok p_high))) fun s a => x_without s (a.1) (a.2)) fun d a => m_D_first_case (roD d) a) p_diagrams) exX fun r d => .ok (Xr.ok r, d)))))
def x_is_prime (p_diagrams : Sd) (p_product : (List Int)) (p_high : Int) : Res (Xr Bool × Sd) :=
  (bindK ((mapX (callX (pairX (pureX fun _ => (.ok p_product)) (pureX fun _ => (.ok p_high))) fun s a => x_lies_within s (a.1) (a.2)) fun b => .ok (!b)) p_diagrams) exX fun (x_ : Bool) (p_diagrams : Sd) => if x_ = true then
  (bindK ((pureX fun _ => (.ok false)) p_diagrams) exX fun r d => .ok (Xr.ok r, d))
  else (Res.bind (lcB (fun (x2 : (Int × Int)) => (neM (.ok x2.2) (.ok (2 : Int)))) (fun (x2 : (Int × Int)) => (.ok x2.1)) (enumM (.ok p_product))) fun (p_places : (List Int)) =>
  (bindK ((mapX (lcBX (fun (x4 : Int) => (mapX (callX (pairX (pureX fun _ => (.ok p_product)) (pairX (pureX fun _ => (.ok x4)) (pureX fun _ => (.ok p_high)))) fun s a => x_beyond_case s (a.1) (a.2.1) (a.2.2)) (fun (y5_0 : (Option Int)) => (notNM (.ok y5_0))))) (.ok p_places)) (fun (y6_0 : (List Bool)) => (allM (.ok y6_0)))) p_diagrams) exX fun r d => .ok (Xr.ok r, d))))
def x_own_case (p_diagrams : Sd) (p_cover : (List (List Int))) (p_at : Int) (p_low : Int) : Res (Xr (Option Int) × Sd) :=
  (bindK ((callX (pureX fun _ => (.ok p_low)) fun s a => x_check_node s a) p_diagrams) exX fun (_ : Unit) (p_diagrams : Sd) =>
  (bindK ((pureX fun _ => (Res.bind (pairM (lenM (.ok p_cover)) (.ok p_at)) fun a => m_check_place (a.1) (a.2))) p_diagrams) exX fun (_ : Unit) (p_diagrams : Sd) =>
  (bindK ((callX (pairX (callX (pureX fun _ => (idxM (.ok p_cover) (.ok p_at))) fun s a => x_product_function s a) (pureX fun _ => (.ok p_low))) fun s a => x_D_both s (a.1) (a.2)) p_diagrams) exX fun (p_own : Int) (p_diagrams : Sd) =>
  (bindK ((callX (pureX fun _ => (catM (sliceM (.ok p_cover) (.ok none) (someM (.ok p_at))) (sliceM (.ok p_cover) (someM (addM (.ok p_at) (.ok (1 : Int)))) (.ok none)))) fun s a => x_cover_function s a) p_diagrams) exX fun (p_others : Int) (p_diagrams : Sd) =>
  (bindK ((readX (callX (pairX (pureX fun _ => (.ok p_own)) (pureX fun _ => (.ok p_others))) fun s a => x_without s (a.1) (a.2)) fun d a => m_D_first_case (roD d) a) p_diagrams) exX fun r d => .ok (Xr.ok r, d))))))
def m_law_takes_b3 (p_product : (List Int)) (p_bits : (List Int)) (p_k : Int) (s_ : Unit) : Res (Tn (Unit) Bool) :=
  match s_ with
 | () =>
  (Res.ite (andM (neM (idxM (.ok p_product) (.ok p_k)) (.ok (2 : Int))) (neM (idxM (.ok p_product) (.ok p_k)) (idxM (.ok p_bits) (.ok p_k))))
  (Res.bind (.ok false) fun r => .ok (.rt r))
  (.ok (.nx ())))
def m_law_takes (p_product : (List Int)) (p_bits : (List Int)) : Res Bool :=
  (Res.bind (Res.bind (rng1M (lenM (.ok p_bits))) fun xs => forB (m_law_takes_b3 p_product p_bits) xs ()) (Lp.el (fun (s_ : Unit) => match s_ with
 | () =>
  (.ok true)) (fun r => .ok r)))
def m_law_truth (p_script : (List Int)) (p_at : Int) (p_count : Int) : Res (List Int) :=
  (Res.bind (Res.bind (pairM (Res.bind (pairM (.ok p_script) (.ok p_at)) fun a => m_law_far (a.1) (a.2)) (catM (consM (.ok (10 : Int)) (.ok [])) (repM (consM (.ok (4 : Int)) (.ok [])) (shlM (.ok (1 : Int)) (.ok p_count))))) fun a => m_law_parts (a.1) (a.2)) fun (p_parts : (List Int)) =>
  (Res.bind (idxM (consM (.ok (0 : Int)) (consM (.ok (1 : Int)) (consM (.ok (1 : Int)) (consM (.ok (2 : Int)) (consM (.ok (2 : Int)) (consM (.ok (2 : Int)) (consM (.ok (3 : Int)) (consM (.ok (3 : Int)) (consM (.ok (3 : Int)) (consM (.ok (4 : Int)) (.ok []))))))))))) (idxM (.ok p_parts) (.ok (0 : Int)))) fun (p_share : Int) =>
  (lcB (fun (x3 : Int) => .ok true) (fun (x3 : Int) => (b2iM (ltM (.ok x3) (.ok p_share)))) (sliceM (.ok p_parts) (someM (.ok (1 : Int))) (.ok none)))))
def x_law_node_j9 (p_part : Int) (s_ : Int × Sd) : Res (Tn (Int × Sd) (Xr Int × Sd)) :=
  match s_ with
 | (p_literal, p_diagrams) =>
  (bindK ((callX (pairX (pureX fun _ => (.ok p_part)) (pureX fun _ => (.ok p_literal))) fun s a => x_D_both s (a.1) (a.2)) p_diagrams) exT fun (p_part : Int) (p_diagrams : Sd) =>
  (.ok (.nx (p_part, p_diagrams))))
def x_law_node_b13 (p_bits : (List Int)) (p_k : Int) (s_ : Int × Sd) : Res (Tn (Int × Sd) (Xr Int × Sd)) :=
  match s_ with
 | (p_part, p_diagrams) =>
  (bindK ((callX (pureX fun _ => (.ok p_k)) fun s a => x_D_variable s a) p_diagrams) exT fun (p_literal : Int) (p_diagrams : Sd) =>
  (Res.ite (eqM (idxM (.ok p_bits) (.ok p_k)) (.ok (0 : Int)))
  (bindK ((callX (pureX fun _ => (.ok p_literal)) fun s a => x_D_negate s a) p_diagrams) exT fun (p_literal : Int) (p_diagrams : Sd) =>
  (x_law_node_j9 p_part (p_literal, p_diagrams)))
  (x_law_node_j9 p_part (p_literal, p_diagrams))))
def x_law_node_b14 (p_count : Int) (p_truth : (List Int)) (p_case : Int) (s_ : Int × Sd) : Res (Tn (Int × Sd) (Xr Int × Sd)) :=
  match s_ with
 | (p_node, p_diagrams) =>
  (Res.ite (eqM (idxM (.ok p_truth) (.ok p_case)) (.ok (1 : Int)))
  (Res.bind (.ok (1 : Int)) fun (p_part : Int) =>
  (bindK ((pureX fun _ => (Res.bind (pairM (.ok p_case) (.ok p_count)) fun a => m_law_bits (a.1) (a.2))) p_diagrams) exT fun (p_bits : (List Int)) (p_diagrams : Sd) =>
  (Res.bind (Res.bind (rng1M (.ok p_count)) fun xs => forB (x_law_node_b13 p_bits) xs (p_part, p_diagrams)) (Lp.el (fun (s_ : Int × Sd) => match s_ with
 | (p_part, p_diagrams) =>
  (bindK ((callX (pairX (pureX fun _ => (.ok p_node)) (pureX fun _ => (.ok p_part))) fun s a => x_D_either s (a.1) (a.2)) p_diagrams) exT fun (p_node : Int) (p_diagrams : Sd) =>
  (.ok (.nx (p_node, p_diagrams))))) (fun r => .ok (.rt r))))))
  (.ok (.nx (p_node, p_diagrams))))
def x_law_node (p_diagrams : Sd) (p_count : Int) (p_truth : (List Int)) : Res (Xr Int × Sd) :=
  (Res.bind (.ok (0 : Int)) fun (p_node : Int) =>
  (Res.bind (Res.bind (rng1M (lenM (.ok p_truth))) fun xs => forB (x_law_node_b14 p_count p_truth) xs (p_node, p_diagrams)) (Lp.el (fun (s_ : Int × Sd) => match s_ with
 | (p_node, p_diagrams) =>
  (bindK ((pureX fun _ => (.ok p_node)) p_diagrams) exX fun r d => .ok (Xr.ok r, d))) (fun r => .ok r))))
end Dgo

namespace G84
open PySem Mw Dgo
def m_law_inside_b3 (p_product : (List Int)) (p_truth : (List Int)) (p_case : Int) (s_ : Unit) : Res (Tn (Unit) Bool) :=
  match s_ with
 | () =>
  (Res.ite (andM (eqM (idxM (.ok p_truth) (.ok p_case)) (.ok (0 : Int))) (Res.bind (pairM (.ok p_product) (Res.bind (pairM (.ok p_case) (lenM (.ok p_product))) fun a => m_law_bits (a.1) (a.2))) fun a => m_law_takes (a.1) (a.2)))
  (Res.bind (.ok false) fun r => .ok (.rt r))
  (.ok (.nx ())))
def m_law_inside (p_product : (List Int)) (p_truth : (List Int)) : Res Bool :=
  (Res.bind (Res.bind (rng1M (lenM (.ok p_truth))) fun xs => forB (m_law_inside_b3 p_product p_truth) xs ()) (Lp.el (fun (s_ : Unit) => match s_ with
 | () =>
  (.ok true)) (fun r => .ok r)))
def m_law_with (p_product : (List Int)) (p_place : Int) (p_mark : Int) : Res (List Int) :=
  (catM (catM (sliceM (.ok p_product) (.ok none) (someM (.ok p_place))) (consM (.ok p_mark) (.ok []))) (sliceM (.ok p_product) (someM (addM (.ok p_place) (.ok (1 : Int)))) (.ok none)))
def m_law_product_j11  (s_ : (List Int)) : Res (List Int) :=
  match s_ with
 | p_product =>
  (.ok p_product)
def m_law_product_b13 (p_count : Int) (p_truth : (List Int)) (p_parts : (List Int)) (p_k : Int) (p_product : (List Int)) : Res ((List Int)) :=
  (Res.bind (Res.bind (pairM (.ok p_product) (pairM (modM (Res.bind (addM (idxM (.ok p_parts) (.ok (2 : Int))) (.ok p_k)) .ok) (.ok p_count)) (.ok (2 : Int)))) fun a => m_law_with (a.1) (a.2.1) (a.2.2)) fun (p_larger : (List Int)) =>
  (Res.ite (Res.bind (pairM (.ok p_larger) (.ok p_truth)) fun a => m_law_inside (a.1) (a.2))
  (Res.bind (.ok p_larger) fun (p_product : (List Int)) =>
  (.ok p_product))
  (.ok p_product)))
def m_law_product (p_script : (List Int)) (p_at : Int) (p_count : Int) (p_truth : (List Int)) : Res (List Int) :=
  (Res.bind (Res.bind (pairM (Res.bind (pairM (.ok p_script) (.ok p_at)) fun a => m_law_far (a.1) (a.2)) (catM (consM (.ok (5 : Int)) (consM (.ok (32 : Int)) (consM (.ok (6 : Int)) (consM (.ok (5 : Int)) (consM (.ok (2 : Int)) (.ok [])))))) (repM (consM (.ok (3 : Int)) (.ok [])) (.ok p_count)))) fun a => m_law_parts (a.1) (a.2)) fun (p_parts : (List Int)) =>
  (Res.bind (lcB (fun (x2 : Int) => (eqM (idxM (.ok p_truth) (.ok x2)) (.ok (1 : Int)))) (fun (x2 : Int) => (.ok x2)) (rng1M (lenM (.ok p_truth)))) fun (p_ones : (List Int)) =>
  (Res.ite (orM (eqM (idxM (.ok p_parts) (.ok (0 : Int))) (.ok (0 : Int))) (eqM (lenM (.ok p_ones)) (.ok (0 : Int))))
  (Res.bind (sliceM (.ok p_parts) (someM (.ok (5 : Int))) (.ok none)) .ok)
  (Res.bind (Res.bind (Res.bind (pairM (idxM (.ok p_ones) (modM (Res.bind (idxM (.ok p_parts) (.ok (1 : Int))) .ok) (lenM (.ok p_ones)))) (.ok p_count)) fun a => m_law_bits (a.1) (a.2)) .ok) fun (p_product : (List Int)) =>
  (Res.bind (Res.bind (rng1M (.ok p_count)) fun xs => forM (m_law_product_b13 p_count p_truth p_parts) xs p_product) (fun (p_product : (List Int)) => (Res.ite (andM (eqM (idxM (.ok p_parts) (.ok (0 : Int))) (.ok (1 : Int))) (gtM (.ok p_count) (.ok (0 : Int))))
  (Res.bind (Res.bind (pairM (.ok p_product) (pairM (modM (Res.bind (idxM (.ok p_parts) (.ok (3 : Int))) .ok) (.ok p_count)) (idxM (.ok p_parts) (.ok (4 : Int))))) fun a => m_law_with (a.1) (a.2.1) (a.2.2)) fun (p_product : (List Int)) =>
  (m_law_product_j11 p_product))
  (m_law_product_j11 p_product))))))))
def m_law_beyond_b4 (p_product : (List Int)) (p_truth : (List Int)) (p_larger : (List Int)) (p_case : Int) (s_ : Unit) : Res (Tn (Unit) (Option Int)) :=
  match s_ with
 | () =>
  (Res.ite (andM (eqM (idxM (.ok p_truth) (.ok p_case)) (.ok (0 : Int))) (Res.bind (pairM (.ok p_larger) (Res.bind (pairM (.ok p_case) (lenM (.ok p_product))) fun a => m_law_bits (a.1) (a.2))) fun a => m_law_takes (a.1) (a.2)))
  (Res.bind (someM (.ok p_case)) fun r => .ok (.rt r))
  (.ok (.nx ())))
def m_law_beyond (p_product : (List Int)) (p_place : Int) (p_truth : (List Int)) : Res (Option Int) :=
  (Res.bind (Res.bind (pairM (.ok p_product) (pairM (.ok p_place) (.ok (2 : Int)))) fun a => m_law_with (a.1) (a.2.1) (a.2.2)) fun (p_larger : (List Int)) =>
  (Res.bind (Res.bind (rng1M (lenM (.ok p_truth))) fun xs => forB (m_law_beyond_b4 p_product p_truth p_larger) xs ()) (Lp.el (fun (s_ : Unit) => match s_ with
 | () =>
  (.ok none)) (fun r => .ok r))))
def m_law_own_b7 (p_cover : (List (List Int))) (p_at : Int) (p_truth : (List Int)) (p_count : Int) (p_case : Int) (s_ : Unit) : Res (Tn (Unit) (Option Int)) :=
  match s_ with
 | () =>
  (Res.bind (Res.bind (pairM (.ok p_case) (.ok p_count)) fun a => m_law_bits (a.1) (a.2)) fun (p_bits : (List Int)) =>
  (Res.ite (andM (eqM (idxM (.ok p_truth) (.ok p_case)) (.ok (1 : Int))) (Res.bind (pairM (idxM (.ok p_cover) (.ok p_at)) (.ok p_bits)) fun a => m_law_takes (a.1) (a.2)))
  (Res.bind (lcB (fun (x4 : Int) => (andM (neM (.ok x4) (.ok p_at)) (Res.bind (pairM (idxM (.ok p_cover) (.ok x4)) (.ok p_bits)) fun a => m_law_takes (a.1) (a.2)))) (fun (x4 : Int) => (.ok x4)) (rng1M (lenM (.ok p_cover)))) fun (p_others : (List Int)) =>
  (Res.ite (eqM (lenM (.ok p_others)) (.ok (0 : Int)))
  (Res.bind (someM (.ok p_case)) fun r => .ok (.rt r))
  (.ok (.nx ()))))
  (.ok (.nx ()))))
def m_law_own (p_cover : (List (List Int))) (p_at : Int) (p_truth : (List Int)) (p_count : Int) : Res (Option Int) :=
  (Res.bind (Res.bind (rng1M (lenM (.ok p_truth))) fun xs => forB (m_law_own_b7 p_cover p_at p_truth p_count) xs ()) (Lp.el (fun (s_ : Unit) => match s_ with
 | () =>
  (.ok none)) (fun r => .ok r)))
def m_law_same (p_actual : (Option Int)) (p_expected : (Option Int)) : Res Bool :=
  (Res.ite (isNM (.ok p_expected))
  (isNM (.ok p_actual))
  (andM (Res.bind (.ok p_actual) fun a => m_law_is_integer a) (eqM (.ok p_actual) (.ok p_expected))))
def x_law_right_product_b11 (p_product : (List Int)) (p_high : Int) (p_truth : (List Int)) (p_place : Int) (s_ : Bool × Sd) : Res (Tn (Bool × Sd) (Xr Bool × Sd)) :=
  match s_ with
 | (p_prime, p_diagrams) =>
  (bindK ((pureX fun _ => (Res.bind (pairM (.ok p_product) (pairM (.ok p_place) (.ok p_truth))) fun a => m_law_beyond (a.1) (a.2.1) (a.2.2))) p_diagrams) exT fun (p_due : (Option Int)) (p_diagrams : Sd) =>
  (bindK ((mapX (mapX (pairX (callX (pairX (pureX fun _ => (.ok p_product)) (pairX (pureX fun _ => (.ok p_place)) (pureX fun _ => (.ok p_high)))) fun s a => x_beyond_case s (a.1) (a.2.1) (a.2.2)) (pureX fun _ => (.ok p_due))) (fun a => m_law_same (a.1) (a.2))) fun b => .ok (!b)) p_diagrams) exT fun (x_ : Bool) (p_diagrams : Sd) => if x_ = true then
  (bindK ((pureX fun _ => (.ok false)) p_diagrams) exT fun r d => .ok (.rt (Xr.ok r, d)))
  else (Res.ite (andM (neM (idxM (.ok p_product) (.ok p_place)) (.ok (2 : Int))) (isNM (.ok p_due)))
  (Res.bind (.ok false) fun (p_prime : Bool) =>
  (.ok (.nx (p_prime, p_diagrams))))
  (.ok (.nx (p_prime, p_diagrams))))))
def x_law_right_product (p_diagrams : Sd) (p_product : (List Int)) (p_high : Int) (p_truth : (List Int)) : Res (Xr Bool × Sd) :=
  (bindK ((pureX fun _ => (Res.bind (pairM (.ok p_product) (.ok p_truth)) fun a => m_law_inside (a.1) (a.2))) p_diagrams) exX fun (p_inside : Bool) (p_diagrams : Sd) =>
  (bindK ((callX (pairX (pureX fun _ => (.ok p_product)) (pureX fun _ => (.ok p_high))) fun s a => x_lies_within s (a.1) (a.2)) p_diagrams) exX fun (p_told : Bool) (p_diagrams : Sd) =>
  (Res.ite (orM (notM (Res.bind (.ok p_told) fun _ => .ok true)) (neM (.ok p_told) (.ok p_inside)))
  (bindK ((pureX fun _ => (.ok false)) p_diagrams) exX fun r d => .ok (Xr.ok r, d))
  (Res.bind (.ok p_inside) fun (p_prime : Bool) =>
  (Res.bind (Res.bind (rng1M (lenM (.ok p_product))) fun xs => forB (x_law_right_product_b11 p_product p_high p_truth) xs (p_prime, p_diagrams)) (Lp.el (fun (s_ : Bool × Sd) => match s_ with
 | (p_prime, p_diagrams) =>
  (bindK ((callX (pairX (pureX fun _ => (.ok p_product)) (pureX fun _ => (.ok p_high))) fun s a => x_is_prime s (a.1) (a.2)) p_diagrams) exX fun (p_told : Bool) (p_diagrams : Sd) =>
  (bindK ((pureX fun _ => (andM (Res.bind (.ok p_told) fun _ => .ok true) (eqM (.ok p_told) (.ok p_prime)))) p_diagrams) exX fun r d => .ok (Xr.ok r, d)))) (fun r => .ok r)))))))
def x_law_refused (p_which : Int) (p_diagrams : Sd) (p_products : (List (List Int))) (p_number : Int) (p_place : Int) : Res (Xr Bool × Sd) :=
  (bindK (Res.ite (eqM (.ok p_which) (.ok (0 : Int)))
  (bindK ((callX (pairX (pureX fun _ => (idxM (.ok p_products) (.ok (0 : Int)))) (pureX fun _ => (.ok p_number))) fun s a => x_lies_within s (a.1) (a.2)) p_diagrams) exX fun (_ : Bool) (p_diagrams : Sd) =>
  (.ok (Xr.ok (), p_diagrams)))
  (Res.ite (eqM (.ok p_which) (.ok (1 : Int)))
  (bindK ((callX (pairX (pureX fun _ => (idxM (.ok p_products) (.ok (0 : Int)))) (pureX fun _ => (.ok p_number))) fun s a => x_is_prime s (a.1) (a.2)) p_diagrams) exX fun (_ : Bool) (p_diagrams : Sd) =>
  (.ok (Xr.ok (), p_diagrams)))
  (Res.ite (eqM (.ok p_which) (.ok (2 : Int)))
  (bindK ((callX (pairX (pureX fun _ => (idxM (.ok p_products) (.ok (0 : Int)))) (pairX (pureX fun _ => (.ok p_place)) (pureX fun _ => (.ok p_number)))) fun s a => x_beyond_case s (a.1) (a.2.1) (a.2.2)) p_diagrams) exX fun (_ : (Option Int)) (p_diagrams : Sd) =>
  (.ok (Xr.ok (), p_diagrams)))
  (bindK ((callX (pairX (pureX fun _ => (.ok p_products)) (pairX (pureX fun _ => (.ok p_place)) (pureX fun _ => (.ok p_number)))) fun s a => x_own_case s (a.1) (a.2.1) (a.2.2)) p_diagrams) exX fun (_ : (Option Int)) (p_diagrams : Sd) =>
  (.ok (Xr.ok (), p_diagrams)))))) (errK 2 fun k1 (p_diagrams : Sd) =>
  (bindK ((pureX fun _ => (.ok (decide (k1 = 0)))) p_diagrams) exX fun r d => .ok (Xr.ok r, d))) fun _ (p_diagrams : Sd) =>
  (bindK ((pureX fun _ => (.ok false)) p_diagrams) exX fun r d => .ok (Xr.ok r, d)))
def m_law_refuses_b9 (p_products : (List (List Int))) (p_count : Int) (p_parts : (List Int)) (p_which : Int) (s_ : Unit) : Res (Tn (Unit) Bool) :=
  match s_ with
 | () =>
  (Res.bind (Res.bind (.ok p_count) fun a => m_D_init a) fun (p_fresh : Sd) =>
  (Res.bind (idxM (consM (Res.bind (.ok (roD p_fresh)) fun s => m_D_size s) (consM (addM (Res.bind (.ok (roD p_fresh)) fun s => m_D_size s) (idxM (.ok p_parts) (.ok (0 : Int)))) (consM (subM (negM (.ok (1 : Int))) (idxM (.ok p_parts) (.ok (0 : Int)))) (.ok [])))) (idxM (.ok p_parts) (.ok (1 : Int)))) fun (p_number : Int) =>
  (bindK ((andX (pureX fun _ => (orM (gtM (.ok p_count) (.ok (0 : Int))) (neM (.ok p_which) (.ok (2 : Int))))) (mapX (callX (pairX (pureX fun _ => (.ok p_which)) (pairX (pureX fun _ => (.ok p_products)) (pairX (pureX fun _ => (.ok p_number)) (pureX fun _ => (.ok (0 : Int)))))) fun s a => x_law_refused (a.1) s (a.2.1) (a.2.2.1) (a.2.2.2)) fun b => .ok (!b))) p_fresh) (fun c fs _ => .exc c fs) fun (x_ : Bool) (p_fresh : Sd) => if x_ = true then
  (Res.bind (.ok false) fun r => .ok (.rt r))
  else (.ok (.nx ())))))
def m_law_refuses (p_products : (List (List Int))) (p_count : Int) (p_parts : (List Int)) : Res Bool :=
  (Res.bind (Res.bind (rng1M (.ok (4 : Int))) fun xs => forB (m_law_refuses_b9 p_products p_count p_parts) xs ()) (Lp.el (fun (s_ : Unit) => match s_ with
 | () =>
  (Res.bind (Res.bind (.ok p_count) fun a => m_D_init a) fun (p_fresh : Sd) =>
  (bindK ((mapX (callX (pairX (pureX fun _ => (.ok (2 : Int))) (pairX (pureX fun _ => (.ok p_products)) (pairX (pureX fun _ => (.ok (1 : Int))) (pureX fun _ => (idxM (consM (addM (.ok p_count) (idxM (.ok p_parts) (.ok (0 : Int)))) (consM (subM (negM (.ok (1 : Int))) (idxM (.ok p_parts) (.ok (0 : Int)))) (.ok []))) (idxM (.ok p_parts) (.ok (2 : Int)))))))) fun s a => x_law_refused (a.1) s (a.2.1) (a.2.2.1) (a.2.2.2)) fun b => .ok (!b)) p_fresh) (fun c fs _ => .exc c fs) fun (x_ : Bool) (p_fresh : Sd) => if x_ = true then
  (.ok false)
  else (Res.bind (idxM (consM (addM (lenM (.ok p_products)) (idxM (.ok p_parts) (.ok (0 : Int)))) (consM (subM (negM (.ok (1 : Int))) (idxM (.ok p_parts) (.ok (0 : Int)))) (.ok []))) (idxM (.ok p_parts) (.ok (2 : Int)))) fun (p_place : Int) =>
  (bindK ((andX (callX (pairX (pureX fun _ => (.ok (3 : Int))) (pairX (pureX fun _ => (.ok p_products)) (pairX (pureX fun _ => (.ok (1 : Int))) (pureX fun _ => (.ok p_place))))) fun s a => x_law_refused (a.1) s (a.2.1) (a.2.2.1) (a.2.2.2)) (callX (pairX (pureX fun _ => (.ok (3 : Int))) (pairX (pureX fun _ => (.ok [])) (pairX (pureX fun _ => (.ok (0 : Int))) (pureX fun _ => (.ok (0 : Int)))))) fun s a => x_law_refused (a.1) s (a.2.1) (a.2.2.1) (a.2.2.2))) p_fresh) (fun c fs _ => .exc c fs) fun r _ => .ok r))))) (fun r => .ok r)))
def m_law_b23 (p_count : Int) (p_truth : (List Int)) (p_lower : (List Int)) (p_diagrams : Sd) (p_high : Int) (p_low : Int) (p_case : Int) (s_ : Unit) : Res (Tn (Unit) Bool) :=
  match s_ with
 | () =>
  (Res.bind (Res.bind (pairM (.ok p_case) (.ok p_count)) fun a => m_law_bits (a.1) (a.2)) fun (p_bits : (List Int)) =>
  (Res.ite (orM (neM (Res.bind (.ok (roD p_diagrams)) fun s => Res.bind (pairM (.ok p_high) (.ok p_bits)) fun a => m_D_value s (a.1) (a.2)) (idxM (.ok p_truth) (.ok p_case))) (neM (Res.bind (.ok (roD p_diagrams)) fun s => Res.bind (pairM (.ok p_low) (Res.bind (.ok p_bits) .ok)) fun a => m_D_value s (a.1) (a.2)) (idxM (.ok p_lower) (.ok p_case))))
  (Res.bind (.ok false) fun r => .ok (.rt r))
  (.ok (.nx ()))))
def m_law_b24 (p_count : Int) (p_lower : (List Int)) (p_low : Int) (p_cover : (List (List Int))) (p_passed : (List (List Int))) (p_at : Int) (p_diagrams : Sd) : Res (Tn (Sd) Bool) :=
  (bindK ((mapX (mapX (pairX (callX (pairX (pureX fun _ => (.ok p_passed)) (pairX (pureX fun _ => (.ok p_at)) (pureX fun _ => (.ok p_low)))) fun s a => x_own_case s (a.1) (a.2.1) (a.2.2)) (pureX fun _ => (Res.bind (pairM (.ok p_cover) (pairM (.ok p_at) (pairM (.ok p_lower) (.ok p_count)))) fun a => m_law_own (a.1) (a.2.1) (a.2.2.1) (a.2.2.2)))) (fun a => m_law_same (a.1) (a.2))) fun b => .ok (!b)) p_diagrams) (fun c fs _ => .exc c fs) fun (x_ : Bool) (p_diagrams : Sd) => if x_ = true then
  (Res.bind (.ok false) fun r => .ok (.rt r))
  else (.ok (.nx p_diagrams)))
def m_law_j14 (p_head : (List Int)) (p_count : Int) (p_truth : (List Int)) (p_lower : (List Int)) (p_diagrams : Sd) (p_high : Int) (p_low : Int) (p_products : (List (List Int))) (s_ : (List (List Int))) : Res Bool :=
  match s_ with
 | p_cover =>
  (Res.bind (Res.bind (.ok p_cover) .ok) fun (p_passed : (List (List Int))) =>
  (Res.bind (Res.bind (rng1M (lenM (.ok p_cover))) fun xs => forB (m_law_b24 p_count p_lower p_low p_cover p_passed) xs p_diagrams) (Lp.el (fun (p_diagrams : Sd) => (Res.ite (orM (neM (.ok p_passed) (.ok p_cover)) (notM (Res.bind (pairM (.ok p_products) (pairM (.ok p_count) (sliceM (.ok p_head) (someM (.ok (3 : Int))) (.ok none)))) fun a => m_law_refuses (a.1) (a.2.1) (a.2.2))))
  (.ok false)
  (Res.bind (Res.bind (rng1M (shlM (.ok (1 : Int)) (.ok p_count))) fun xs => forB (m_law_b23 p_count p_truth p_lower p_diagrams p_high p_low) xs ()) (Lp.el (fun (s_ : Unit) => match s_ with
 | () =>
  (.ok true)) (fun r => .ok r))))) (fun r => .ok r))))
def m_law_b26 (p_truth : (List Int)) (p_high : Int) (p_product : (List Int)) (p_diagrams : Sd) : Res (Tn (Sd) Bool) :=
  (bindK ((mapX (callX (pairX (pureX fun _ => (.ok p_product)) (pairX (pureX fun _ => (.ok p_high)) (pureX fun _ => (.ok p_truth)))) fun s a => x_law_right_product s (a.1) (a.2.1) (a.2.2)) fun b => .ok (!b)) p_diagrams) (fun c fs _ => .exc c fs) fun (x_ : Bool) (p_diagrams : Sd) => if x_ = true then
  (Res.bind (.ok false) fun r => .ok (.rt r))
  else (.ok (.nx p_diagrams)))
def m_law (p_script : (List Int)) : Res Bool :=
  (Res.bind (Res.bind (pairM (Res.bind (pairM (.ok p_script) (.ok (0 : Int))) fun a => m_law_far (a.1) (a.2)) (consM (.ok (10 : Int)) (consM (.ok (6 : Int)) (consM (.ok (4 : Int)) (consM (.ok (20 : Int)) (consM (.ok (3 : Int)) (consM (.ok (2 : Int)) (.ok [])))))))) fun a => m_law_parts (a.1) (a.2)) fun (p_head : (List Int)) =>
  (Res.bind (idxM (consM (.ok (0 : Int)) (consM (.ok (1 : Int)) (consM (.ok (2 : Int)) (consM (.ok (2 : Int)) (consM (.ok (3 : Int)) (consM (.ok (3 : Int)) (consM (.ok (3 : Int)) (consM (.ok (4 : Int)) (consM (.ok (4 : Int)) (consM (.ok (5 : Int)) (.ok []))))))))))) (idxM (.ok p_head) (.ok (0 : Int)))) fun (p_count : Int) =>
  (Res.bind (Res.bind (pairM (.ok p_script) (pairM (.ok (1 : Int)) (.ok p_count))) fun a => m_law_truth (a.1) (a.2.1) (a.2.2)) fun (p_truth : (List Int)) =>
  (Res.bind (Res.bind (pairM (.ok p_script) (pairM (.ok (2 : Int)) (.ok p_count))) fun a => m_law_truth (a.1) (a.2.1) (a.2.2)) fun (p_lower : (List Int)) =>
  (Res.bind (Res.bind (.ok p_count) fun a => m_D_init a) fun (p_diagrams : Sd) =>
  (bindK ((callX (pairX (pureX fun _ => (.ok p_count)) (pureX fun _ => (.ok p_truth))) fun s a => x_law_node s (a.1) (a.2)) p_diagrams) (fun c fs _ => .exc c fs) fun (p_high : Int) (p_diagrams : Sd) =>
  (bindK ((callX (pairX (pureX fun _ => (.ok p_count)) (pureX fun _ => (.ok p_lower))) fun s a => x_law_node s (a.1) (a.2)) p_diagrams) (fun c fs _ => .exc c fs) fun (p_low : Int) (p_diagrams : Sd) =>
  (Res.bind (lcB (fun (x8 : Int) => .ok true) (fun (x8 : Int) => (Res.bind (pairM (.ok p_script) (pairM (addM (.ok (3 : Int)) (.ok x8)) (pairM (.ok p_count) (.ok p_truth)))) fun a => m_law_product (a.1) (a.2.1) (a.2.2.1) (a.2.2.2))) (rng1M (.ok (5 : Int)))) fun (p_products : (List (List Int))) =>
  (Res.bind (Res.bind (.ok p_products) fun xs => forB (m_law_b26 p_truth p_high) xs p_diagrams) (Lp.el (fun (p_diagrams : Sd) => (Res.bind (sliceM (.ok p_products) (.ok none) (someM (idxM (.ok p_head) (.ok (1 : Int))))) fun (p_cover : (List (List Int))) =>
  (Res.ite (eqM (idxM (.ok p_head) (.ok (2 : Int))) (.ok (0 : Int)))
  (Res.bind (catM (.ok p_cover) (sliceM (.ok p_cover) (.ok none) (someM (.ok (1 : Int))))) fun (p_cover : (List (List Int))) =>
  (m_law_j14 p_head p_count p_truth p_lower p_diagrams p_high p_low p_products p_cover))
  (m_law_j14 p_head p_count p_truth p_lower p_diagrams p_high p_low p_products p_cover)))) (fun r => .ok r)))))))))))
end G84

namespace G84
open PySem PySem.Spec L2 Mw
def top (i : Nat) : Stmt := PySem.Challenge.pw_pinsalone_k84_primes_and_own_cases.main.body.getD i (.Pass ⟨0, 0, 0, 0⟩)
abbrev s_check_bits : Stmt := top 6
abbrev N_check_bits : List Str := ["bits", "count", "bit"]
theorem sc_check_bits : FnScope N_check_bits ["bits", "count"] (defScope s_check_bits) := ⟨rfl, rfl, rfl, by decide +kernel, rfl, by decide +kernel, by decide +kernel⟩
abbrev s_D_check : Stmt := inClass (top 10) 1
abbrev N_D_check : List Str := ["self", "numbers", "number"]
theorem sc_D_check : FnScope N_D_check ["self", "numbers"] (defScope s_D_check) := ⟨rfl, rfl, rfl, by decide +kernel, rfl, by decide +kernel, by decide +kernel⟩
abbrev s_D_top : Stmt := inClass (top 10) 3
abbrev N_D_top : List Str := ["self", "numbers", "number"]
theorem sc_D_top : FnScope N_D_top ["self", "numbers"] (defScope s_D_top) := ⟨rfl, rfl, rfl, by decide +kernel, rfl, by decide +kernel, by decide +kernel⟩
abbrev s_D_side : Stmt := inClass (top 10) 4
abbrev N_D_side : List Str := ["self", "number", "variable", "bit"]
theorem sc_D_side : FnScope N_D_side ["self", "number", "variable", "bit"] (defScope s_D_side) := ⟨rfl, rfl, rfl, by decide +kernel, rfl, by decide +kernel, by decide +kernel⟩
abbrev s_D_size : Stmt := inClass (top 10) 6
abbrev N_D_size : List Str := ["self"]
theorem sc_D_size : FnScope N_D_size ["self"] (defScope s_D_size) := ⟨rfl, rfl, rfl, by decide +kernel, rfl, by decide +kernel, by decide +kernel⟩
abbrev s_D_variable : Stmt := inClass (top 10) 8
abbrev N_D_variable : List Str := ["self", "i"]
theorem sc_D_variable : FnScope N_D_variable ["self", "i"] (defScope s_D_variable) := ⟨rfl, rfl, rfl, by decide +kernel, rfl, by decide +kernel, by decide +kernel⟩
abbrev s_D_choose : Stmt := inClass (top 10) 9
abbrev N_D_choose : List Str := ["self", "f", "g", "h"]
theorem sc_D_choose : FnScope N_D_choose ["self", "f", "g", "h"] (defScope s_D_choose) := ⟨rfl, rfl, rfl, by decide +kernel, rfl, by decide +kernel, by decide +kernel⟩
abbrev s_D_negate : Stmt := inClass (top 10) 10
abbrev N_D_negate : List Str := ["self", "f"]
theorem sc_D_negate : FnScope N_D_negate ["self", "f"] (defScope s_D_negate) := ⟨rfl, rfl, rfl, by decide +kernel, rfl, by decide +kernel, by decide +kernel⟩
abbrev s_D_both : Stmt := inClass (top 10) 11
abbrev N_D_both : List Str := ["self", "f", "g"]
theorem sc_D_both : FnScope N_D_both ["self", "f", "g"] (defScope s_D_both) := ⟨rfl, rfl, rfl, by decide +kernel, rfl, by decide +kernel, by decide +kernel⟩
abbrev s_D_either : Stmt := inClass (top 10) 12
abbrev N_D_either : List Str := ["self", "f", "g"]
theorem sc_D_either : FnScope N_D_either ["self", "f", "g"] (defScope s_D_either) := ⟨rfl, rfl, rfl, by decide +kernel, rfl, by decide +kernel, by decide +kernel⟩
abbrev s_D_value : Stmt := inClass (top 10) 14
abbrev N_D_value : List Str := ["self", "f", "bits", "variable", "low", "high"]
theorem sc_D_value : FnScope N_D_value ["self", "f", "bits"] (defScope s_D_value) := ⟨rfl, rfl, rfl, by decide +kernel, rfl, by decide +kernel, by decide +kernel⟩
abbrev s_D_first_case : Stmt := inClass (top 10) 15
abbrev N_D_first_case : List Str := ["self", "f", "case", "variable", "low", "high"]
theorem sc_D_first_case : FnScope N_D_first_case ["self", "f"] (defScope s_D_first_case) := ⟨rfl, rfl, rfl, by decide +kernel, rfl, by decide +kernel, by decide +kernel⟩
abbrev s_product_function : Stmt := top 13
abbrev N_product_function : List Str := ["diagrams", "product", "node", "variable", "mark", "literal"]
theorem sc_product_function : FnScope N_product_function ["diagrams", "product"] (defScope s_product_function) := ⟨rfl, rfl, rfl, by decide +kernel, rfl, by decide +kernel, by decide +kernel⟩
abbrev s_cover_function : Stmt := top 14
abbrev N_cover_function : List Str := ["diagrams", "cover", "node", "product"]
theorem sc_cover_function : FnScope N_cover_function ["diagrams", "cover"] (defScope s_cover_function) := ⟨rfl, rfl, rfl, by decide +kernel, rfl, by decide +kernel, by decide +kernel⟩
abbrev s_without : Stmt := top 15
abbrev N_without : List Str := ["diagrams", "f", "g"]
theorem sc_without : FnScope N_without ["diagrams", "f", "g"] (defScope s_without) := ⟨rfl, rfl, rfl, by decide +kernel, rfl, by decide +kernel, by decide +kernel⟩
abbrev s_with_mark : Stmt := top 16
abbrev N_with_mark : List Str := ["product", "place", "mark"]
theorem sc_with_mark : FnScope N_with_mark ["product", "place", "mark"] (defScope s_with_mark) := ⟨rfl, rfl, rfl, by decide +kernel, rfl, by decide +kernel, by decide +kernel⟩
abbrev s_check_place : Stmt := top 18
abbrev N_check_place : List Str := ["items", "place"]
theorem sc_check_place : FnScope N_check_place ["items", "place"] (defScope s_check_place) := ⟨rfl, rfl, rfl, by decide +kernel, rfl, by decide +kernel, by decide +kernel⟩
abbrev s_check_node : Stmt := top 19
abbrev N_check_node : List Str := ["diagrams", "number"]
theorem sc_check_node : FnScope N_check_node ["diagrams", "number"] (defScope s_check_node) := ⟨rfl, rfl, rfl, by decide +kernel, rfl, by decide +kernel, by decide +kernel⟩
abbrev s_lies_within : Stmt := top 20
abbrev N_lies_within : List Str := ["diagrams", "product", "high"]
theorem sc_lies_within : FnScope N_lies_within ["diagrams", "product", "high"] (defScope s_lies_within) := ⟨rfl, rfl, rfl, by decide +kernel, rfl, by decide +kernel, by decide +kernel⟩
abbrev s_beyond_case : Stmt := top 21
abbrev N_beyond_case : List Str := ["diagrams", "product", "place", "high", "larger"]
theorem sc_beyond_case : FnScope N_beyond_case ["diagrams", "product", "place", "high"] (defScope s_beyond_case) := ⟨rfl, rfl, rfl, by decide +kernel, rfl, by decide +kernel, by decide +kernel⟩
abbrev s_is_prime : Stmt := top 22
abbrev N_is_prime : List Str := ["diagrams", "product", "high", "places", "place", "mark"]
theorem sc_is_prime : FnScope N_is_prime ["diagrams", "product", "high"] (defScope s_is_prime) := ⟨rfl, rfl, rfl, by decide +kernel, rfl, by decide +kernel, by decide +kernel⟩
abbrev s_own_case : Stmt := top 23
abbrev N_own_case : List Str := ["diagrams", "cover", "at", "low", "own", "others"]
theorem sc_own_case : FnScope N_own_case ["diagrams", "cover", "at", "low"] (defScope s_own_case) := ⟨rfl, rfl, rfl, by decide +kernel, rfl, by decide +kernel, by decide +kernel⟩
abbrev s_law_far : Stmt := top 25
abbrev N_law_far : List Str := ["script", "k"]
theorem sc_law_far : FnScope N_law_far ["script", "k"] (defScope s_law_far) := ⟨rfl, rfl, rfl, by decide +kernel, rfl, by decide +kernel, by decide +kernel⟩
abbrev s_law_parts : Stmt := top 26
abbrev N_law_parts : List Str := ["cell", "sizes", "parts", "rest", "k", "mixed"]
theorem sc_law_parts : FnScope N_law_parts ["cell", "sizes"] (defScope s_law_parts) := ⟨rfl, rfl, rfl, by decide +kernel, rfl, by decide +kernel, by decide +kernel⟩
abbrev s_law_is_integer : Stmt := top 27
abbrev N_law_is_integer : List Str := ["actual"]
theorem sc_law_is_integer : FnScope N_law_is_integer ["actual"] (defScope s_law_is_integer) := ⟨rfl, rfl, rfl, by decide +kernel, rfl, by decide +kernel, by decide +kernel⟩
abbrev s_law_bits : Stmt := top 28
abbrev N_law_bits : List Str := ["number", "count", "k"]
theorem sc_law_bits : FnScope N_law_bits ["number", "count"] (defScope s_law_bits) := ⟨rfl, rfl, rfl, by decide +kernel, rfl, by decide +kernel, by decide +kernel⟩
abbrev s_law_takes : Stmt := top 29
abbrev N_law_takes : List Str := ["product", "bits", "k"]
theorem sc_law_takes : FnScope N_law_takes ["product", "bits"] (defScope s_law_takes) := ⟨rfl, rfl, rfl, by decide +kernel, rfl, by decide +kernel, by decide +kernel⟩
abbrev s_law_truth : Stmt := top 30
abbrev N_law_truth : List Str := ["script", "at", "count", "parts", "share", "part"]
theorem sc_law_truth : FnScope N_law_truth ["script", "at", "count"] (defScope s_law_truth) := ⟨rfl, rfl, rfl, by decide +kernel, rfl, by decide +kernel, by decide +kernel⟩
abbrev s_law_node : Stmt := top 31
abbrev N_law_node : List Str := ["diagrams", "count", "truth", "node", "case", "part", "bits", "k", "literal"]
theorem sc_law_node : FnScope N_law_node ["diagrams", "count", "truth"] (defScope s_law_node) := ⟨rfl, rfl, rfl, by decide +kernel, rfl, by decide +kernel, by decide +kernel⟩
abbrev s_law_inside : Stmt := top 32
abbrev N_law_inside : List Str := ["product", "truth", "case"]
theorem sc_law_inside : FnScope N_law_inside ["product", "truth"] (defScope s_law_inside) := ⟨rfl, rfl, rfl, by decide +kernel, rfl, by decide +kernel, by decide +kernel⟩
abbrev s_law_with : Stmt := top 33
abbrev N_law_with : List Str := ["product", "place", "mark"]
theorem sc_law_with : FnScope N_law_with ["product", "place", "mark"] (defScope s_law_with) := ⟨rfl, rfl, rfl, by decide +kernel, rfl, by decide +kernel, by decide +kernel⟩
abbrev s_law_product : Stmt := top 34
abbrev N_law_product : List Str := ["script", "at", "count", "truth", "parts", "ones", "product", "k", "larger", "case"]
theorem sc_law_product : FnScope N_law_product ["script", "at", "count", "truth"] (defScope s_law_product) := ⟨rfl, rfl, rfl, by decide +kernel, rfl, by decide +kernel, by decide +kernel⟩
abbrev s_law_beyond : Stmt := top 35
abbrev N_law_beyond : List Str := ["product", "place", "truth", "larger", "case"]
theorem sc_law_beyond : FnScope N_law_beyond ["product", "place", "truth"] (defScope s_law_beyond) := ⟨rfl, rfl, rfl, by decide +kernel, rfl, by decide +kernel, by decide +kernel⟩
abbrev s_law_own : Stmt := top 36
abbrev N_law_own : List Str := ["cover", "at", "truth", "count", "case", "bits", "others", "k"]
theorem sc_law_own : FnScope N_law_own ["cover", "at", "truth", "count"] (defScope s_law_own) := ⟨rfl, rfl, rfl, by decide +kernel, rfl, by decide +kernel, by decide +kernel⟩
abbrev s_law_same : Stmt := top 37
abbrev N_law_same : List Str := ["actual", "expected"]
theorem sc_law_same : FnScope N_law_same ["actual", "expected"] (defScope s_law_same) := ⟨rfl, rfl, rfl, by decide +kernel, rfl, by decide +kernel, by decide +kernel⟩
abbrev s_law_right_product : Stmt := top 38
abbrev N_law_right_product : List Str := ["diagrams", "product", "high", "truth", "inside", "told", "prime", "place", "due"]
theorem sc_law_right_product : FnScope N_law_right_product ["diagrams", "product", "high", "truth"] (defScope s_law_right_product) := ⟨rfl, rfl, rfl, by decide +kernel, rfl, by decide +kernel, by decide +kernel⟩
abbrev s_law_refused : Stmt := top 39
abbrev N_law_refused : List Str := ["which", "diagrams", "products", "number", "place", "e"]
theorem sc_law_refused : FnScope N_law_refused ["which", "diagrams", "products", "number", "place"] (defScope s_law_refused) := ⟨rfl, rfl, rfl, by decide +kernel, rfl, by decide +kernel, by decide +kernel⟩
abbrev s_law_refuses : Stmt := top 40
abbrev N_law_refuses : List Str := ["products", "count", "parts", "which", "fresh", "number", "place"]
theorem sc_law_refuses : FnScope N_law_refuses ["products", "count", "parts"] (defScope s_law_refuses) := ⟨rfl, rfl, rfl, by decide +kernel, rfl, by decide +kernel, by decide +kernel⟩
abbrev s_law : Stmt := top 41
abbrev N_law : List Str := ["script", "head", "count", "truth", "lower", "diagrams", "high", "low", "products", "product", "cover", "passed", "at", "case", "bits", "k"]
theorem sc_law : FnScope N_law ["script"] (defScope s_law) := ⟨rfl, rfl, rfl, by decide +kernel, rfl, by decide +kernel, by decide +kernel⟩
structure Txt (K : PySem.W.Frag) (mg : Str → Option Value) (cl : Nat → Addr) : Prop where
  n_all : mg "all" = none
  n_bool : mg "bool" = none
  n_enumerate : mg "enumerate" = none
  n_int : mg "int" = none
  n_isinstance : mg "isinstance" = none
  n_len : mg "len" = none
  n_list : mg "list" = none
  n_max : mg "max" = none
  n_range : mg "range" = none
  n_tuple : mg "tuple" = none
  c_FREE : ∃ t, mg "FREE" = some (.int (2) t)
  c_ONE : ∃ t, mg "ONE" = some (.int (1) t)
  c_ZERO : ∃ t, mg "ZERO" = some (.int (0) t)
  ec_0 : ExcC K (cl 0)
  ex_0 : PySem.W.exmOne K (.ref (cl 0)) (.ref (cl 2)) = some true
  kit_0_0 : PySem.W.kitOne K (.ref (cl 0)) (.ref (cl 0)) = some true
  kit_0_1 : PySem.W.kitOne K (.ref (cl 0)) (.ref (cl 1)) = some false
  ec_1 : ExcC K (cl 1)
  ex_1 : PySem.W.exmOne K (.ref (cl 1)) (.ref (cl 2)) = some true
  kit_1_0 : PySem.W.kitOne K (.ref (cl 1)) (.ref (cl 0)) = some false
  kit_1_1 : PySem.W.kitOne K (.ref (cl 1)) (.ref (cl 1)) = some true
  g_0 : mg "NoSuchThing" = some (.ref (cl 0))
  x_0 : PySem.W.excIn K (cl 0) [.type "ValueError", .type "Exception", .type "BaseException", .type "object"] "ValueError.__new__" = true
  k_0 : PySem.W.keepIn K (.ref (cl 0)) = true
  b_0 : PySem.W.subIn K (.ref (cl 0)) (.type "BaseException") = some true
  t_0 : PySem.W.typeIn K (.ref (cl 0)) = some (.type "type")
  g_1 : mg "InvalidValues" = some (.ref (cl 1))
  x_1 : PySem.W.excIn K (cl 1) [.type "ValueError", .type "Exception", .type "BaseException", .type "object"] "ValueError.__new__" = true
  k_1 : PySem.W.keepIn K (.ref (cl 1)) = true
  b_1 : PySem.W.subIn K (.ref (cl 1)) (.type "BaseException") = some true
  t_1 : PySem.W.typeIn K (.ref (cl 1)) = some (.type "type")
  g_2 : mg "GatesError" = some (.ref (cl 2))
theorem Txt.ec {K : PySem.W.Frag} {mg : Str → Option Value} {cl : Nat → Addr} (T : Txt K mg cl) : ∀ k, k < 2 → ExcC K (cl k)
  | 0, _ => T.ec_0
  | 1, _ => T.ec_1
  | k + 2, h => absurd h (by omega)
theorem Txt.ex {K : PySem.W.Frag} {mg : Str → Option Value} {cl : Nat → Addr} (T : Txt K mg cl) : ∀ k, k < 2 → PySem.W.exmOne K (.ref (cl k)) (.ref (cl 2)) = some true
  | 0, _ => T.ex_0
  | 1, _ => T.ex_1
  | k + 2, h => absurd h (by omega)
theorem Txt.kit {K : PySem.W.Frag} {mg : Str → Option Value} {cl : Nat → Addr} (T : Txt K mg cl) : ∀ k j, k < 2 → j < 2 → PySem.W.kitOne K (.ref (cl k)) (.ref (cl j)) = some (decide (k = j))
  | 0, 0, _, _ => T.kit_0_0
  | 0, 1, _, _ => T.kit_0_1
  | 1, 0, _, _ => T.kit_1_0
  | 1, 1, _, _ => T.kit_1_1
  | k + 2, _, h, _ => absurd h (by omega)
  | 0, j + 2, _, h => absurd h (by omega)
  | 1, j + 2, _, h => absurd h (by omega)
end G84

namespace G84
open PySem PySem.Spec L2 Mw Dgo
theorem ok_check_bits {P : Program} {w : World} {K : PySem.W.Frag} {mg : Str → Option Value} {base : Heap} {cl : Nat → Addr} {fa : Addr} {fd : FuncData} (F : Fun K "check_bits" "check_bits" s_check_bits fa fd) (T : Txt K mg cl)  :
    FnOk P w K mg base (L2.CX P w) 1 fa fd ["bits", "count"] (spP K cl (rsC (rK zI) (rs1 zI)) rN (fun a => m_check_bits (a.1) (a.2))) := by
  refine F.okX sc_check_bits (fun vs H Q E h => ?_) (fun cdv A outer s H vs Q E hr h => ?_)
  · obtain ⟨G, a, _, hS, _⟩ := h
    exact (lnC ln1) _ _ _ _ hS
  · obtain ⟨G, ⟨p_bits, p_count⟩, hg, hS, hm⟩ := h
    obtain ⟨v_p_bits, _, rfl, h_p_bits, v_p_count, rfl, h_p_count⟩ := hS
    cases (show v_p_count = V.int p_count from h_p_count)
    have tk : Takes (cxOf (L2.CX P w) P w K mg base N_check_bits "check_bits" (defScope s_check_bits) fa cdv A outer s H E) (fun cls d _ H => E cls d H) := takes_of rfl rfl rfl rfl
    refine ⟨_, (pss_cons (ps_if (pt_cmpR op_ne (pe_callB (r := Mw.rLen K) call_len (by rfl) T.n_len b_len (pa_cons (pv 0) pa_nil)) (pv 1) (nomark _)) (pss_cons (ps_raise rfl tk (pmk_own PySem.F.excBase_ValueError T.x_1 T.g_1 T.k_1 (raises_own T.b_1 T.t_1) (by exact rfl)))
     pss_nil) pss_nil)
     (pss_cons (ps_for (passes_of rfl) rfl (pi_list (pv 0)) (pg_name (i := 2) sc_check_bits.nd rfl (by first | exact Or.inl rfl | exact Or.inr rfl)) (pss_cons (ps_if (PW.pt (pw_and (pt_cmpR op_ne (pv 2) pe_int (nomark _)) (pw_and1 (pt_cmpR op_ne (pv 2) pe_int (nomark _))))) (pss_cons (ps_raise rfl tk (pmk_own PySem.F.excBase_ValueError T.x_1 T.g_1 T.k_1 (raises_own T.b_1 T.t_1) (by exact rfl)))
     pss_nil) pss_nil)
     pss_nil))
     pss_nil)), ?_⟩
    have hs : Hs ⟨H, G, E, cl⟩ G [] H := Hs.start hg
    have hm := Wp.ofSp (G0 := G) hm
    try dsimp only at hm
    unfold m_check_bits at hm
    refine (show (_ : TS) _ ([some v_p_bits, some (.int p_count), none] : L2.St) _ from ?_)
    refine w_if (t_test (K := K) (e_ne srI (e_len sq_K (e_var (K := K) (i := 0) (R := (rK zI)) (x := p_bits) rfl h_p_bits)) (e_var (K := K) (i := 1) (R := zI) (x := p_count) rfl rfl))) hs hm (fun G1 H1 e1 hs hm => ?_) (fun G1 H1 e1 hs hm => ?_)
    · have h_p_bits := (((rK zI)).mono e1 h_p_bits)
      exact hm.out _ none hs.fr rfl
    · have h_p_bits := (((rK zI)).mono e1 h_p_bits)
      refine nx_of ?_
      refine (show (_ : TS) _ ([some v_p_bits, some (.int p_count), none] : L2.St) _ from ?_)
      refine w_forM (K := K) (fun (_ : Unit) (σ : L2.St) (G : Hp) (O : Own) => ∃ (d_2 : Option V), σ = [some v_p_bits, some (.int p_count), d_2] ∧ O = []) (i_list (e_KL (e_var (K := K) (i := 0) (R := (rK zI)) (x := p_bits) rfl h_p_bits))) (fun _ _ _ _ _ _ h => nomatch h) (tg_name (i := 2) (R := zI)) hs hm ⟨none, rfl, rfl⟩ (fun p_bit s_ σ_ G1_2 G2 O_ H2 vv2 D2 Qb2 e2 w_ e12 hs hv2 E2 hm => ?_) (fun s_ σ_ G1_2 G2 O_ H2 e2 w_ e12 hs hm => ?_)
      · obtain ⟨d_2, rfl, rfl⟩ := w_
        have h_p_bits := (((rK zI)).mono e2 h_p_bits)
        obtain ⟨v_p_bit, rfl, h_p_bit⟩ := hv2
        cases (show v_p_bit = V.int p_bit from h_p_bit)
        have b2 := Same.refl G2
        refine (show (_ : TS) _ ([some v_p_bits, some (.int p_count), some (.int p_bit)] : L2.St) _ from ?_)
        unfold m_check_bits_b4 at hm
        try dsimp only at hm
        refine w_if (t_and (t_test (K := K) (e_ne srI (e_var (K := K) (i := 2) (R := zI) (x := p_bit) rfl rfl) e_int)) (t_test (K := K) (e_ne srI (e_var (K := K) (i := 2) (R := zI) (x := p_bit) rfl rfl) e_int))) hs hm (fun G3 H3 e3 hs hm => ?_) (fun G3 H3 e3 hs hm => ?_)
        · have h_p_bits := (((rK zI)).mono e3 h_p_bits)
          have b2 := Same.trans b2 e3
          exact hm.out _ none hs.fr rfl
        · have h_p_bits := (((rK zI)).mono e3 h_p_bits)
          have b2 := Same.trans b2 e3
          refine nx_of ?_
          refine (show (_ : TS) _ ([some v_p_bits, some (.int p_count), some (.int p_bit)] : L2.St) _ from ?_)
          exact E2.nx () _ _ _ _ _ b2 ⟨some (.int p_bit), rfl, rfl⟩ (Same.refl _) hs hm.out
      · obtain ⟨d_2, rfl, rfl⟩ := w_
        have h_p_bits := (((rK zI)).mono e2 h_p_bits)
        refine (show (_ : TS) _ ([some v_p_bits, some (.int p_count), d_2] : L2.St) _ from ?_)
        try dsimp only at hm
        exact hm.out .non _ _ hs.fin rfl

theorem ok_D_check {P : Program} {w : World} {K : PySem.W.Frag} {mg : Str → Option Value} {base : Heap} {cl : Nat → Addr} {fa : Addr} {fd : FuncData} (F : Fun K "_check" "Diagrams._check" s_D_check fa fd) (T : Txt K mg cl) {C : Addr} (TD : DFacts K C)  :
    FnOk P w K mg base (L2.CX P w) 1 fa fd ["self", "numbers"] (spP K cl (rsC (rDn C) (rs1 (rK zI))) rN (fun a => m_D_check (a.1) (a.2))) := by
  refine F.okX sc_D_check (fun vs H Q E h => ?_) (fun cdv A outer s H vs Q E hr h => ?_)
  · obtain ⟨G, a, _, hS, _⟩ := h
    exact (lnC ln1) _ _ _ _ hS
  · obtain ⟨G, ⟨p_self, p_numbers⟩, hg, hS, hm⟩ := h
    obtain ⟨v_p_self, _, rfl, h_p_self, v_p_numbers, rfl, h_p_numbers⟩ := hS
    have tk : Takes (cxOf (L2.CX P w) P w K mg base N_D_check "Diagrams._check" (defScope s_D_check) fa cdv A outer s H E) (fun cls d _ H => E cls d H) := takes_of rfl rfl rfl rfl
    refine ⟨_, (pss_cons (ps_for (passes_of rfl) rfl (pi_list (pv 1)) (pg_name (i := 2) sc_D_check.nd rfl (by first | exact Or.inl rfl | exact Or.inr rfl)) (pss_cons (ps_if (pt_not (pt_chain op_le op_lt pe_int (pv 2) (pe_callB (r := Mw.rLen K) call_len (by rfl) T.n_len b_len (pa_cons (pe_fld (pv 0) rfl) pa_nil)))) (pss_cons (ps_raise rfl tk (pmk_own PySem.F.excBase_ValueError T.x_0 T.g_0 T.k_0 (raises_own T.b_0 T.t_0) (by exact rfl)))
     pss_nil) pss_nil)
     pss_nil))
     pss_nil), ?_⟩
    have hs : Hs ⟨H, G, E, cl⟩ G [] H := Hs.start hg
    have hm := Wp.ofSp (G0 := G) hm
    try dsimp only at hm
    unfold m_D_check at hm
    refine (show (_ : TS) _ ([some v_p_self, some v_p_numbers, none] : L2.St) _ from ?_)
    refine w_forM (K := K) (fun (_ : Unit) (σ : L2.St) (G : Hp) (O : Own) => ∃ (d_2 : Option V), σ = [some v_p_self, some v_p_numbers, d_2] ∧ O = []) (i_list (e_KL (e_var (K := K) (i := 1) (R := (rK zI)) (x := p_numbers) rfl h_p_numbers))) (fun _ _ _ _ _ _ h => nomatch h) (tg_name (i := 2) (R := zI)) hs hm ⟨none, rfl, rfl⟩ (fun p_number s_ σ_ G1_1 G1 O_ H1 vv1 D1 Qb1 e1 w_ e11 hs hv1 E1 hm => ?_) (fun s_ σ_ G1_1 G1 O_ H1 e1 w_ e11 hs hm => ?_)
    · obtain ⟨d_2, rfl, rfl⟩ := w_
      have h_p_self := (((rDn C)).mono e1 h_p_self)
      have h_p_numbers := (((rK zI)).mono e1 h_p_numbers)
      obtain ⟨v_p_number, rfl, h_p_number⟩ := hv1
      cases (show v_p_number = V.int p_number from h_p_number)
      have b1 := Same.refl G1
      refine (show (_ : TS) _ ([some v_p_self, some v_p_numbers, some (.int p_number)] : L2.St) _ from ?_)
      unfold m_D_check_b3 at hm
      try dsimp only at hm
      refine w_if (t_not (t_test (K := K) (e_chain e_int (e_var (K := K) (i := 2) (R := zI) (x := p_number) rfl rfl) (e_len sq_K (e_nodes TD (e_var (K := K) (i := 0) (R := (rDn C)) (x := p_self) rfl h_p_self)))))) hs hm (fun G2 H2 e2 hs hm => ?_) (fun G2 H2 e2 hs hm => ?_)
      · have h_p_self := (((rDn C)).mono e2 h_p_self)
        have h_p_numbers := (((rK zI)).mono e2 h_p_numbers)
        have b1 := Same.trans b1 e2
        exact hm.out _ none hs.fr rfl
      · have h_p_self := (((rDn C)).mono e2 h_p_self)
        have h_p_numbers := (((rK zI)).mono e2 h_p_numbers)
        have b1 := Same.trans b1 e2
        refine nx_of ?_
        refine (show (_ : TS) _ ([some v_p_self, some v_p_numbers, some (.int p_number)] : L2.St) _ from ?_)
        exact E1.nx () _ _ _ _ _ b1 ⟨some (.int p_number), rfl, rfl⟩ (Same.refl _) hs hm.out
    · obtain ⟨d_2, rfl, rfl⟩ := w_
      have h_p_self := (((rDn C)).mono e1 h_p_self)
      have h_p_numbers := (((rK zI)).mono e1 h_p_numbers)
      refine (show (_ : TS) _ ([some v_p_self, some v_p_numbers, d_2] : L2.St) _ from ?_)
      try dsimp only at hm
      exact hm.out .non _ _ hs.fin rfl

theorem ok_D_top {P : Program} {w : World} {K : PySem.W.Frag} {mg : Str → Option Value} {base : Heap} {cl : Nat → Addr} {fa : Addr} {fd : FuncData} (F : Fun K "_top" "Diagrams._top" s_D_top fa fd) (T : Txt K mg cl) {C : Addr} (TD : DFacts K C)  :
    FnOk P w K mg base (L2.CX P w) 1 fa fd ["self", "numbers"] (spP K cl (rsC (rDn C) (rs1 (rK zI))) zI (fun a => m_D_top (a.1) (a.2))) := by
  refine F.okX sc_D_top (fun vs H Q E h => ?_) (fun cdv A outer s H vs Q E hr h => ?_)
  · obtain ⟨G, a, _, hS, _⟩ := h
    exact (lnC ln1) _ _ _ _ hS
  · obtain ⟨G, ⟨p_self, p_numbers⟩, hg, hS, hm⟩ := h
    obtain ⟨v_p_self, _, rfl, h_p_self, v_p_numbers, rfl, h_p_numbers⟩ := hS
    refine ⟨_, (pss_cons (ps_ret (pe_callB (r := rMax K) (cr_max rfl) (by rfl) T.n_max b_max (pa_cons (pe_lc (own := [("number", 2)]) rfl sc_D_top.nd (pi_list (pv 1)) (blkOk_by (own := [("number", 2)]) (N := N_D_top) (sc := defScope s_D_top) (by decide +kernel)) (fun _ _ _ _ _ => (pg_name (i := 2) sc_D_top.nd rfl (by first | exact Or.inl rfl | exact Or.inr rfl))) (fun _ _ _ _ _ => (pts_one (pt_cmpR op_gt (pv 2) (pe_glob (v := .int (1)) rfl T.c_ONE.choose_spec ⟨_, rfl⟩) (nomark _)))) (fun _ _ _ _ _ => (pe_ix (r := rIxT K) ix_tup (pe_ix (r := rIxL K) ix_list (show PE _ _ (tFld K _ _) from pe_fld (pv 0) rfl) (pv 2) (fun _ _ => rfl)) pe_int (fun _ _ => rfl)))) pa_nil)))
     pss_nil), ?_⟩
    have hs : Hs ⟨H, G, E, cl⟩ G [] H := Hs.start hg
    have hm := Wp.ofSp (G0 := G) hm
    try dsimp only at hm
    unfold m_D_top at hm
    refine (show (_ : TS) _ ([some v_p_self, some v_p_numbers, none] : L2.St) _ from ?_)
    exact w_ret0 (K := K) (e_maxL (e_KL (EvN.evK (n_lc (S := zI) (i_list (e_KL (e_var (K := K) (i := 1) (R := (rK zI)) (x := p_numbers) rfl h_p_numbers))) (fun _ h => nomatch h) (tg_name (i := 2) (R := zI)) (by decide) (fun x1 vs1 G1 e1 hv1 => by
     obtain ⟨v1_p_number, rfl, h1_p_number⟩ := hv1
     exact ⟨(t_test (K := K) (e_cmp (p := fun i j => decide (j < i)) (e_var (K := K) (i := 2) (R := zI) (x := x1) rfl h1_p_number) e_int)), (e_proj (k := 0) pj0 (e_get (e_ixL (e_KL (e_nodes TD (e_var (K := K) (i := 0) (R := (rDn C)) (x := p_self) rfl (((rDn C)).mono e1 h_p_self)))) (e_var (K := K) (i := 2) (R := zI) (x := x1) rfl h1_p_number))))⟩))))) hs hm fun r v G2 H2 hs2 hr2 hq => hq v G2 H2 hs2.fin hr2

theorem ok_D_side {P : Program} {w : World} {K : PySem.W.Frag} {mg : Str → Option Value} {base : Heap} {cl : Nat → Addr} {fa : Addr} {fd : FuncData} (F : Fun K "_side" "Diagrams._side" s_D_side fa fd) (T : Txt K mg cl) {C : Addr} (TD : DFacts K C)  :
    FnOk P w K mg base (L2.CX P w) 1 fa fd ["self", "number", "variable", "bit"] (spP K cl (rsC (rDn C) (rsC zI (rsC zI (rs1 zI)))) zI (fun a => m_D_side (a.1) (a.2.1) (a.2.2.1) (a.2.2.2))) := by
  refine F.okX sc_D_side (fun vs H Q E h => ?_) (fun cdv A outer s H vs Q E hr h => ?_)
  · obtain ⟨G, a, _, hS, _⟩ := h
    exact (lnC (lnC (lnC ln1))) _ _ _ _ hS
  · obtain ⟨G, ⟨p_self, p_number, p_variable, p_bit⟩, hg, hS, hm⟩ := h
    obtain ⟨v_p_self, _, rfl, h_p_self, v_p_number, _, rfl, h_p_number, v_p_variable, _, rfl, h_p_variable, v_p_bit, rfl, h_p_bit⟩ := hS
    cases (show v_p_number = V.int p_number from h_p_number)
    cases (show v_p_variable = V.int p_variable from h_p_variable)
    cases (show v_p_bit = V.int p_bit from h_p_bit)
    refine ⟨_, (pss_cons (ps_if (PW.pt (pw_or (pt_cmpR op_le (pv 1) (pe_glob (v := .int (1)) rfl T.c_ONE.choose_spec ⟨_, rfl⟩) (nomark _)) (pw_or1 (pt_cmpR op_ne (pe_ix (r := rIxT K) ix_tup (pe_ix (r := rIxL K) ix_list (pe_fld (pv 0) rfl) (pv 1) (fun _ _ => rfl)) pe_int (fun _ _ => rfl)) (pv 2) (nomark _))))) (pss_cons (ps_ret (pv 1))
     pss_nil) pss_nil)
     (pss_cons (ps_ret (pe_ix (r := rIxT K) ix_tup (pe_ix (r := rIxL K) ix_list (pe_fld (pv 0) rfl) (pv 1) (fun _ _ => rfl)) (pe_op op_add pe_int (pv 3)) (fun _ _ => rfl)))
     pss_nil)), ?_⟩
    have hs : Hs ⟨H, G, E, cl⟩ G [] H := Hs.start hg
    have hm := Wp.ofSp (G0 := G) hm
    try dsimp only at hm
    unfold m_D_side at hm
    refine (show (_ : TS) _ ([some v_p_self, some (.int p_number), some (.int p_variable), some (.int p_bit)] : L2.St) _ from ?_)
    refine w_if (t_or (t_test (K := K) (e_cmp (p := fun i j => decide (i ≤ j)) (e_var (K := K) (i := 1) (R := zI) (x := p_number) rfl rfl) e_int)) (t_test (K := K) (e_ne srI (e_proj (k := 0) pj0 (e_get (e_ixL (e_KL (e_nodes TD (e_var (K := K) (i := 0) (R := (rDn C)) (x := p_self) rfl h_p_self))) (e_var (K := K) (i := 1) (R := zI) (x := p_number) rfl rfl)))) (e_var (K := K) (i := 2) (R := zI) (x := p_variable) rfl rfl)))) hs hm (fun G1 H1 e1 hs hm => ?_) (fun G1 H1 e1 hs hm => ?_)
    · have h_p_self := (((rDn C)).mono e1 h_p_self)
      exact w_ret0 (K := K) (e_var (K := K) (i := 1) (R := zI) (x := p_number) rfl rfl) hs hm fun r v G2 H2 hs2 hr2 hq => hq v G2 H2 hs2.fin hr2
    · have h_p_self := (((rDn C)).mono e1 h_p_self)
      refine nx_of ?_
      refine (show (_ : TS) _ ([some v_p_self, some (.int p_number), some (.int p_variable), some (.int p_bit)] : L2.St) _ from ?_)
      exact w_ret0 (K := K) (e_ixT (e_P3T (e_get (e_ixL (e_KL (e_nodes TD (e_var (K := K) (i := 0) (R := (rDn C)) (x := p_self) rfl h_p_self))) (e_var (K := K) (i := 1) (R := zI) (x := p_number) rfl rfl)))) (e_add e_int (e_var (K := K) (i := 3) (R := zI) (x := p_bit) rfl rfl))) hs hm fun r v G2 H2 hs2 hr2 hq => hq v G2 H2 hs2.fin hr2

theorem ok_D_size {P : Program} {w : World} {K : PySem.W.Frag} {mg : Str → Option Value} {base : Heap} {cl : Nat → Addr} {fa : Addr} {fd : FuncData} (F : Fun K "size" "Diagrams.size" s_D_size fa fd) (T : Txt K mg cl) {C : Addr} (TD : DFacts K C)  :
    FnOk P w K mg base (L2.CX P w) 1 fa fd ["self"] (spP K cl (rs1 (rDn C)) zI (fun a => m_D_size a)) := by
  refine F.okX sc_D_size (fun vs H Q E h => ?_) (fun cdv A outer s H vs Q E hr h => ?_)
  · obtain ⟨G, a, _, hS, _⟩ := h
    exact ln1 _ _ _ _ hS
  · obtain ⟨G, p_self, hg, hS, hm⟩ := h
    obtain ⟨v_p_self, rfl, h_p_self⟩ := hS
    refine ⟨_, (pss_cons (ps_ret (pe_callB (r := Mw.rLen K) call_len (by rfl) T.n_len b_len (pa_cons (pe_fld (pv 0) rfl) pa_nil)))
     pss_nil), ?_⟩
    have hs : Hs ⟨H, G, E, cl⟩ G [] H := Hs.start hg
    have hm := Wp.ofSp (G0 := G) hm
    try dsimp only at hm
    unfold m_D_size at hm
    refine (show (_ : TS) _ ([some v_p_self] : L2.St) _ from ?_)
    exact w_ret0 (K := K) (e_len sq_K (e_nodes TD (e_var (K := K) (i := 0) (R := (rDn C)) (x := p_self) rfl h_p_self))) hs hm fun r v G2 H2 hs2 hr2 hq => hq v G2 H2 hs2.fin hr2

theorem ok_D_variable {P : Program} {w : World} {K : PySem.W.Frag} {mg : Str → Option Value} {base : Heap} {cl : Nat → Addr} {fa : Addr} {fd : FuncData} (F : Fun K "variable" "Diagrams.variable" s_D_variable fa fd) (T : Txt K mg cl) {C : Addr} (TD : DFacts K C) (C_D_found : MCal P w K mg base C "_found" 1 ["self", "variable", "low", "high"] (spX K cl (ObD K C) (fun v0 => (rsV v0 (rsC zI (rsC zI (rs1 zI))))) zI (fun s a => x_D_found s (a.1) (a.2.1) (a.2.2)))) :
    FnOk P w K mg base (L2.CX P w) 2 fa fd ["self", "i"] (spX K cl (ObD K C) (fun v0 => (rsV v0 (rs1 zI))) zI (fun s a => x_D_variable s a)) := by
  refine F.okX sc_D_variable (fun vs H Q E h => ?_) (fun cdv A outer s H vs Q E hr h => ?_)
  · obtain ⟨F1, G, O, d, v0, a, _, _, hS, _⟩ := h
    exact (lnV ln1) _ _ _ _ hS
  · obtain ⟨F1, G, O_p_self, p_self, v_p_self, p_i, hs, h_p_self, hS, hm⟩ := h
    obtain ⟨_, rfl, ⟨v_p_i, rfl, h_p_i⟩⟩ := hS
    cases (show v_p_i = V.int p_i from h_p_i)
    have tk : Takes (cxOf (L2.CX P w) P w K mg base N_D_variable "Diagrams.variable" (defScope s_D_variable) fa cdv A outer s H E) (fun cls d _ H => E cls d H) := takes_of rfl rfl rfl rfl
    refine ⟨_, (pss_cons (ps_if (pt_not (pt_chain op_le op_lt pe_int (pv 1) (pe_fld (pv 0) rfl))) (pss_cons (ps_raise rfl tk (pmk_own PySem.F.excBase_ValueError T.x_0 T.g_0 T.k_0 (raises_own T.b_0 T.t_0) (by exact rfl)))
     pss_nil) pss_nil)
     (pss_cons (ps_ret (pe_meth (E := E) (pv 0) TD.cl C_D_found.me C_D_found.ok (hr.mono (by decide)) C_D_found.bd .nil (passes_call tk (fun _ _ _ _ h => h)) (pa_cons (pv 1) (pa_cons (pe_glob (v := .int (0)) rfl T.c_ZERO.choose_spec ⟨_, rfl⟩) (pa_cons (pe_glob (v := .int (1)) rfl T.c_ONE.choose_spec ⟨_, rfl⟩) pa_nil)))))
     pss_nil)), ?_⟩
    have hs := Hs.wrap hs
    have hm : Wp (x_D_variable p_self p_i) (QX K ⟨F1, G, E, cl⟩ (ObD K C) v_p_self zI Q) _ := QX.start hm
    try dsimp only at hm
    unfold x_D_variable at hm
    refine (show (_ : TS) _ ([some v_p_self, some (.int p_i)] : L2.St) _ from ?_)
    refine w_if (t_lendZ obmD lendsD h_p_self (fun _ eL1 rL1 => (t_not (t_test (K := K) (e_chain e_int (e_var (K := K) (i := 1) (R := zI) (x := p_i) rfl rfl) (e_count TD (e_var (K := K) (i := 0) (R := (rDn C)) (x := (roD p_self)) rfl rL1))))))) hs hm (fun G2 H2 e2 hs hm => ?_) (fun G2 H2 e2 hs hm => ?_)
    · have h_p_self := (obD_mono _ _ _ _ _ e2 h_p_self)
      exact (hx_fn : HX _ [] [] _ _ _ exX _) 0 [] _ hm _ _ _ none (Same.refl _) hs h_p_self rfl
    · have h_p_self := (obD_mono _ _ _ _ _ e2 h_p_self)
      refine nx_of ?_
      refine (show (_ : TS) _ ([some v_p_self, some (.int p_i)] : L2.St) _ from ?_)
      exact w_retY (K := K) (La := []) (Lb := []) (O := O_p_self) (kr := fun r d => (Xr.ok r, d)) (y_meth (mt := "_found") (fm := ⟨F1, G, E, cl⟩) (S := (rsC zI (rsC zI (rs1 zI)))) (h := fun s a => x_D_found s (a.1) (a.2.1) (a.2.2)) (objD (by exact fun _ _ _ _ => rfl)) rfl (yA_cons (y_pure0 obmD (fun Fz _ => (e_var (K := K) (i := 1) (R := zI) (x := p_i) rfl rfl))) (yA_cons (y_pure0 obmD (fun Fz _ => e_int)) (yA_one (y_pure0 obmD (fun Fz _ => e_int)))))) hs h_p_self hx_fn hm fun x d v G2 O2 H2 e2 hs2 ob2 hr2 hq => QX.ret hq hs2 ob2 hr2

theorem ok_D_choose {P : Program} {w : World} {K : PySem.W.Frag} {mg : Str → Option Value} {base : Heap} {cl : Nat → Addr} {fa : Addr} {fd : FuncData} (F : Fun K "choose" "Diagrams.choose" s_D_choose fa fd) (T : Txt K mg cl) {C : Addr} (TD : DFacts K C) (C_D_check : MCal P w K mg base C "_check" 1 ["self", "numbers"] (spP K cl (rsC (rDn C) (rs1 (rK zI))) rN (fun a => m_D_check (a.1) (a.2)))) (C_D_chosen : MCal P w K mg base C "_chosen" 14 ["self", "f", "g", "h"] (spX K cl (ObD K C) (fun v0 => (rsV v0 (rsC zI (rsC zI (rs1 zI))))) zI (fun s a => x_D_chosen s (a.1) (a.2.1) (a.2.2)))) :
    FnOk P w K mg base (L2.CX P w) 15 fa fd ["self", "f", "g", "h"] (spX K cl (ObD K C) (fun v0 => (rsV v0 (rsC zI (rsC zI (rs1 zI))))) zI (fun s a => x_D_choose s (a.1) (a.2.1) (a.2.2))) := by
  refine F.okX sc_D_choose (fun vs H Q E h => ?_) (fun cdv A outer s H vs Q E hr h => ?_)
  · obtain ⟨F1, G, O, d, v0, a, _, _, hS, _⟩ := h
    exact (lnV (lnC (lnC ln1))) _ _ _ _ hS
  · obtain ⟨F1, G, O_p_self, p_self, v_p_self, ⟨p_f, p_g, p_h⟩, hs, h_p_self, hS, hm⟩ := h
    obtain ⟨_, rfl, ⟨v_p_f, _, rfl, h_p_f, ⟨v_p_g, _, rfl, h_p_g, ⟨v_p_h, rfl, h_p_h⟩⟩⟩⟩ := hS
    cases (show v_p_f = V.int p_f from h_p_f)
    cases (show v_p_g = V.int p_g from h_p_g)
    cases (show v_p_h = V.int p_h from h_p_h)
    have tk : Takes (cxOf (L2.CX P w) P w K mg base N_D_choose "Diagrams.choose" (defScope s_D_choose) fa cdv A outer s H E) (fun cls d _ H => E cls d H) := takes_of rfl rfl rfl rfl
    refine ⟨_, (pss_cons (ps_expr (pe_meth (E := E) (pv 0) TD.cl C_D_check.me C_D_check.ok (hr.mono (by decide)) C_D_check.bd .nil (passes_call tk (fun _ _ _ _ h => h)) (pa_cons (pe_lst (pa_cons (pv 1) (pa_cons (pv 2) (pa_cons (pv 3) pa_nil)))) pa_nil)))
     (pss_cons (ps_ret (pe_meth (E := E) (pv 0) TD.cl C_D_chosen.me C_D_chosen.ok (hr.mono (by decide)) C_D_chosen.bd .nil (passes_call tk (fun _ _ _ _ h => h)) (pa_cons (pv 1) (pa_cons (pv 2) (pa_cons (pv 3) pa_nil)))))
     pss_nil)), ?_⟩
    have hs := Hs.wrap hs
    have hm : Wp (x_D_choose p_self p_f p_g p_h) (QX K ⟨F1, G, E, cl⟩ (ObD K C) v_p_self zI Q) _ := QX.start hm
    try dsimp only at hm
    unfold x_D_choose at hm
    refine (show (_ : TS) _ ([some v_p_self, some (.int p_f), some (.int p_g), some (.int p_h)] : L2.St) _ from ?_)
    refine w_dropY (K := K) (La := []) (Lb := []) (O := O_p_self) (y_pure obmD (fun Fz dP1 O1 G1 eP1 oP1 => (e_lendZ obmD lendsD sc_N oP1 (fun G1 eQ1 rP1 => (e_methR (mt := "_check") (fm := ⟨Fz, G, E, cl⟩) (by exact fun _ _ _ _ => rfl) (e_var (K := K) (i := 0) (R := (rDn C)) (x := (roD dP1)) rfl rP1) (a_one (EvN.evK (e_lst (l_cons (e_var (K := K) (i := 1) (R := zI) (x := p_f) rfl rfl) (l_cons (e_var (K := K) (i := 2) (R := zI) (x := p_g) rfl rfl) (l_cons (e_var (K := K) (i := 3) (R := zI) (x := p_h) rfl rfl) l_nil))) (by decide))))))))) hs h_p_self hx_fn hm (fun _ p_self G2 O_p_self H2 e2 hs hd2 hm => ?_)
    try dsimp only at hm
    have h_p_self := hd2
    exact w_retY (K := K) (La := []) (Lb := []) (O := O_p_self) (kr := fun r d => (Xr.ok r, d)) (y_meth (mt := "_chosen") (fm := ⟨F1, G, E, cl⟩) (S := (rsC zI (rsC zI (rs1 zI)))) (h := fun s a => x_D_chosen s (a.1) (a.2.1) (a.2.2)) (objD (by exact fun _ _ _ _ => rfl)) rfl (yA_cons (y_pure0 obmD (fun Fz _ => (e_var (K := K) (i := 1) (R := zI) (x := p_f) rfl rfl))) (yA_cons (y_pure0 obmD (fun Fz _ => (e_var (K := K) (i := 2) (R := zI) (x := p_g) rfl rfl))) (yA_one (y_pure0 obmD (fun Fz _ => (e_var (K := K) (i := 3) (R := zI) (x := p_h) rfl rfl))))))) hs h_p_self hx_fn hm fun x d v G2 O2 H2 e2 hs2 ob2 hr2 hq => QX.ret hq hs2 ob2 hr2

theorem ok_D_negate {P : Program} {w : World} {K : PySem.W.Frag} {mg : Str → Option Value} {base : Heap} {cl : Nat → Addr} {fa : Addr} {fd : FuncData} (F : Fun K "negate" "Diagrams.negate" s_D_negate fa fd) (T : Txt K mg cl) {C : Addr} (TD : DFacts K C) (C_D_choose : MCal P w K mg base C "choose" 15 ["self", "f", "g", "h"] (spX K cl (ObD K C) (fun v0 => (rsV v0 (rsC zI (rsC zI (rs1 zI))))) zI (fun s a => x_D_choose s (a.1) (a.2.1) (a.2.2)))) :
    FnOk P w K mg base (L2.CX P w) 16 fa fd ["self", "f"] (spX K cl (ObD K C) (fun v0 => (rsV v0 (rs1 zI))) zI (fun s a => x_D_negate s a)) := by
  refine F.okX sc_D_negate (fun vs H Q E h => ?_) (fun cdv A outer s H vs Q E hr h => ?_)
  · obtain ⟨F1, G, O, d, v0, a, _, _, hS, _⟩ := h
    exact (lnV ln1) _ _ _ _ hS
  · obtain ⟨F1, G, O_p_self, p_self, v_p_self, p_f, hs, h_p_self, hS, hm⟩ := h
    obtain ⟨_, rfl, ⟨v_p_f, rfl, h_p_f⟩⟩ := hS
    cases (show v_p_f = V.int p_f from h_p_f)
    have tk : Takes (cxOf (L2.CX P w) P w K mg base N_D_negate "Diagrams.negate" (defScope s_D_negate) fa cdv A outer s H E) (fun cls d _ H => E cls d H) := takes_of rfl rfl rfl rfl
    refine ⟨_, (pss_cons (ps_ret (pe_meth (E := E) (pv 0) TD.cl C_D_choose.me C_D_choose.ok (hr.mono (by decide)) C_D_choose.bd .nil (passes_call tk (fun _ _ _ _ h => h)) (pa_cons (pv 1) (pa_cons (pe_glob (v := .int (0)) rfl T.c_ZERO.choose_spec ⟨_, rfl⟩) (pa_cons (pe_glob (v := .int (1)) rfl T.c_ONE.choose_spec ⟨_, rfl⟩) pa_nil)))))
     pss_nil), ?_⟩
    have hs := Hs.wrap hs
    have hm : Wp (x_D_negate p_self p_f) (QX K ⟨F1, G, E, cl⟩ (ObD K C) v_p_self zI Q) _ := QX.start hm
    try dsimp only at hm
    unfold x_D_negate at hm
    refine (show (_ : TS) _ ([some v_p_self, some (.int p_f)] : L2.St) _ from ?_)
    exact w_retY (K := K) (La := []) (Lb := []) (O := O_p_self) (kr := fun r d => (Xr.ok r, d)) (y_meth (mt := "choose") (fm := ⟨F1, G, E, cl⟩) (S := (rsC zI (rsC zI (rs1 zI)))) (h := fun s a => x_D_choose s (a.1) (a.2.1) (a.2.2)) (objD (by exact fun _ _ _ _ => rfl)) rfl (yA_cons (y_pure0 obmD (fun Fz _ => (e_var (K := K) (i := 1) (R := zI) (x := p_f) rfl rfl))) (yA_cons (y_pure0 obmD (fun Fz _ => e_int)) (yA_one (y_pure0 obmD (fun Fz _ => e_int)))))) hs h_p_self hx_fn hm fun x d v G2 O2 H2 e2 hs2 ob2 hr2 hq => QX.ret hq hs2 ob2 hr2

theorem ok_D_both {P : Program} {w : World} {K : PySem.W.Frag} {mg : Str → Option Value} {base : Heap} {cl : Nat → Addr} {fa : Addr} {fd : FuncData} (F : Fun K "both" "Diagrams.both" s_D_both fa fd) (T : Txt K mg cl) {C : Addr} (TD : DFacts K C) (C_D_choose : MCal P w K mg base C "choose" 15 ["self", "f", "g", "h"] (spX K cl (ObD K C) (fun v0 => (rsV v0 (rsC zI (rsC zI (rs1 zI))))) zI (fun s a => x_D_choose s (a.1) (a.2.1) (a.2.2)))) :
    FnOk P w K mg base (L2.CX P w) 16 fa fd ["self", "f", "g"] (spX K cl (ObD K C) (fun v0 => (rsV v0 (rsC zI (rs1 zI)))) zI (fun s a => x_D_both s (a.1) (a.2))) := by
  refine F.okX sc_D_both (fun vs H Q E h => ?_) (fun cdv A outer s H vs Q E hr h => ?_)
  · obtain ⟨F1, G, O, d, v0, a, _, _, hS, _⟩ := h
    exact (lnV (lnC ln1)) _ _ _ _ hS
  · obtain ⟨F1, G, O_p_self, p_self, v_p_self, ⟨p_f, p_g⟩, hs, h_p_self, hS, hm⟩ := h
    obtain ⟨_, rfl, ⟨v_p_f, _, rfl, h_p_f, ⟨v_p_g, rfl, h_p_g⟩⟩⟩ := hS
    cases (show v_p_f = V.int p_f from h_p_f)
    cases (show v_p_g = V.int p_g from h_p_g)
    have tk : Takes (cxOf (L2.CX P w) P w K mg base N_D_both "Diagrams.both" (defScope s_D_both) fa cdv A outer s H E) (fun cls d _ H => E cls d H) := takes_of rfl rfl rfl rfl
    refine ⟨_, (pss_cons (ps_ret (pe_meth (E := E) (pv 0) TD.cl C_D_choose.me C_D_choose.ok (hr.mono (by decide)) C_D_choose.bd .nil (passes_call tk (fun _ _ _ _ h => h)) (pa_cons (pv 1) (pa_cons (pv 2) (pa_cons (pe_glob (v := .int (0)) rfl T.c_ZERO.choose_spec ⟨_, rfl⟩) pa_nil)))))
     pss_nil), ?_⟩
    have hs := Hs.wrap hs
    have hm : Wp (x_D_both p_self p_f p_g) (QX K ⟨F1, G, E, cl⟩ (ObD K C) v_p_self zI Q) _ := QX.start hm
    try dsimp only at hm
    unfold x_D_both at hm
    refine (show (_ : TS) _ ([some v_p_self, some (.int p_f), some (.int p_g)] : L2.St) _ from ?_)
    exact w_retY (K := K) (La := []) (Lb := []) (O := O_p_self) (kr := fun r d => (Xr.ok r, d)) (y_meth (mt := "choose") (fm := ⟨F1, G, E, cl⟩) (S := (rsC zI (rsC zI (rs1 zI)))) (h := fun s a => x_D_choose s (a.1) (a.2.1) (a.2.2)) (objD (by exact fun _ _ _ _ => rfl)) rfl (yA_cons (y_pure0 obmD (fun Fz _ => (e_var (K := K) (i := 1) (R := zI) (x := p_f) rfl rfl))) (yA_cons (y_pure0 obmD (fun Fz _ => (e_var (K := K) (i := 2) (R := zI) (x := p_g) rfl rfl))) (yA_one (y_pure0 obmD (fun Fz _ => e_int)))))) hs h_p_self hx_fn hm fun x d v G2 O2 H2 e2 hs2 ob2 hr2 hq => QX.ret hq hs2 ob2 hr2

theorem ok_D_either {P : Program} {w : World} {K : PySem.W.Frag} {mg : Str → Option Value} {base : Heap} {cl : Nat → Addr} {fa : Addr} {fd : FuncData} (F : Fun K "either" "Diagrams.either" s_D_either fa fd) (T : Txt K mg cl) {C : Addr} (TD : DFacts K C) (C_D_choose : MCal P w K mg base C "choose" 15 ["self", "f", "g", "h"] (spX K cl (ObD K C) (fun v0 => (rsV v0 (rsC zI (rsC zI (rs1 zI))))) zI (fun s a => x_D_choose s (a.1) (a.2.1) (a.2.2)))) :
    FnOk P w K mg base (L2.CX P w) 16 fa fd ["self", "f", "g"] (spX K cl (ObD K C) (fun v0 => (rsV v0 (rsC zI (rs1 zI)))) zI (fun s a => x_D_either s (a.1) (a.2))) := by
  refine F.okX sc_D_either (fun vs H Q E h => ?_) (fun cdv A outer s H vs Q E hr h => ?_)
  · obtain ⟨F1, G, O, d, v0, a, _, _, hS, _⟩ := h
    exact (lnV (lnC ln1)) _ _ _ _ hS
  · obtain ⟨F1, G, O_p_self, p_self, v_p_self, ⟨p_f, p_g⟩, hs, h_p_self, hS, hm⟩ := h
    obtain ⟨_, rfl, ⟨v_p_f, _, rfl, h_p_f, ⟨v_p_g, rfl, h_p_g⟩⟩⟩ := hS
    cases (show v_p_f = V.int p_f from h_p_f)
    cases (show v_p_g = V.int p_g from h_p_g)
    have tk : Takes (cxOf (L2.CX P w) P w K mg base N_D_either "Diagrams.either" (defScope s_D_either) fa cdv A outer s H E) (fun cls d _ H => E cls d H) := takes_of rfl rfl rfl rfl
    refine ⟨_, (pss_cons (ps_ret (pe_meth (E := E) (pv 0) TD.cl C_D_choose.me C_D_choose.ok (hr.mono (by decide)) C_D_choose.bd .nil (passes_call tk (fun _ _ _ _ h => h)) (pa_cons (pv 1) (pa_cons (pe_glob (v := .int (1)) rfl T.c_ONE.choose_spec ⟨_, rfl⟩) (pa_cons (pv 2) pa_nil)))))
     pss_nil), ?_⟩
    have hs := Hs.wrap hs
    have hm : Wp (x_D_either p_self p_f p_g) (QX K ⟨F1, G, E, cl⟩ (ObD K C) v_p_self zI Q) _ := QX.start hm
    try dsimp only at hm
    unfold x_D_either at hm
    refine (show (_ : TS) _ ([some v_p_self, some (.int p_f), some (.int p_g)] : L2.St) _ from ?_)
    exact w_retY (K := K) (La := []) (Lb := []) (O := O_p_self) (kr := fun r d => (Xr.ok r, d)) (y_meth (mt := "choose") (fm := ⟨F1, G, E, cl⟩) (S := (rsC zI (rsC zI (rs1 zI)))) (h := fun s a => x_D_choose s (a.1) (a.2.1) (a.2.2)) (objD (by exact fun _ _ _ _ => rfl)) rfl (yA_cons (y_pure0 obmD (fun Fz _ => (e_var (K := K) (i := 1) (R := zI) (x := p_f) rfl rfl))) (yA_cons (y_pure0 obmD (fun Fz _ => e_int)) (yA_one (y_pure0 obmD (fun Fz _ => (e_var (K := K) (i := 2) (R := zI) (x := p_g) rfl rfl))))))) hs h_p_self hx_fn hm fun x d v G2 O2 H2 e2 hs2 ob2 hr2 hq => QX.ret hq hs2 ob2 hr2

theorem ok_D_value {P : Program} {w : World} {K : PySem.W.Frag} {mg : Str → Option Value} {base : Heap} {cl : Nat → Addr} {fa : Addr} {fd : FuncData} (F : Fun K "value" "Diagrams.value" s_D_value fa fd) (T : Txt K mg cl) {C : Addr} (TD : DFacts K C) (C_D_check : MCal P w K mg base C "_check" 1 ["self", "numbers"] (spP K cl (rsC (rDn C) (rs1 (rK zI))) rN (fun a => m_D_check (a.1) (a.2)))) (C_check_bits : Cal P w K mg base "check_bits" 1 ["bits", "count"] (spP K cl (rsC (rK zI) (rs1 zI)) rN (fun a => m_check_bits (a.1) (a.2)))) :
    FnOk P w K mg base (L2.CX P w) 2 fa fd ["self", "f", "bits"] (spP K cl (rsC (rDn C) (rsC zI (rs1 (rK zI)))) zI (fun a => m_D_value (a.1) (a.2.1) (a.2.2))) := by
  refine F.okX sc_D_value (fun vs H Q E h => ?_) (fun cdv A outer s H vs Q E hr h => ?_)
  · obtain ⟨G, a, _, hS, _⟩ := h
    exact (lnC (lnC ln1)) _ _ _ _ hS
  · obtain ⟨G, ⟨p_self, p_f, p_bits⟩, hg, hS, hm⟩ := h
    obtain ⟨v_p_self, _, rfl, h_p_self, v_p_f, _, rfl, h_p_f, v_p_bits, rfl, h_p_bits⟩ := hS
    cases (show v_p_f = V.int p_f from h_p_f)
    have tk : Takes (cxOf (L2.CX P w) P w K mg base N_D_value "Diagrams.value" (defScope s_D_value) fa cdv A outer s H E) (fun cls d _ H => E cls d H) := takes_of rfl rfl rfl rfl
    refine ⟨_, (pss_cons (ps_expr (pe_meth (E := E) (pv 0) TD.cl C_D_check.me C_D_check.ok (hr.mono (by decide)) C_D_check.bd .nil (passes_call tk (fun _ _ _ _ h => h)) (pa_cons (pe_lst (pa_cons (pv 1) pa_nil)) pa_nil)))
     (pss_cons (ps_expr (pe_call (E := E) C_check_bits.ok (hr.mono (by decide)) rfl C_check_bits.mgx C_check_bits.kp C_check_bits.bd .nil (passes_call tk (fun _ _ _ _ h => h)) (pa_cons (pv 2) (pa_cons (pe_fld (pv 0) rfl) pa_nil))))
     (pss_cons (ps_while (passes_of rfl) (pt_cmpR op_gt (pv 1) (pe_glob (v := .int (1)) rfl T.c_ONE.choose_spec ⟨_, rfl⟩) (nomark _)) (pss_cons (ps_asg (pe_ix (r := rIxL K) ix_list (pe_fld (pv 0) rfl) (pv 1) (fun _ _ => rfl)) (show PG _ _ (gTup K 3 _) from pg_tup rfl (pgs_cons (pg_name (i := 3) sc_D_value.nd rfl (by first | exact Or.inl rfl | exact Or.inr rfl)) (pgs_cons (pg_name (i := 4) sc_D_value.nd rfl (by first | exact Or.inl rfl | exact Or.inr rfl)) (pgs_cons (pg_name (i := 5) sc_D_value.nd rfl (by first | exact Or.inl rfl | exact Or.inr rfl)) pgs_nil)))))
     (pss_cons (ps_set (i := 1) sc_D_value.nd rfl (by first | exact Or.inl rfl | exact Or.inr rfl) (pe_ifExp (pt_cmpR op_eq (pe_ix (r := rIxL K) ix_list (pv 2) (pv 3) (fun _ _ => rfl)) pe_int (nomark _)) (pv 5) (pv 4)))
     pss_nil)))
     (pss_cons (ps_ret (pv 1))
     pss_nil)))), ?_⟩
    have hs : Hs ⟨H, G, E, cl⟩ G [] H := Hs.start hg
    have hm := Wp.ofSp (G0 := G) hm
    try dsimp only at hm
    unfold m_D_value at hm
    refine (show (_ : TS) _ ([some v_p_self, some (.int p_f), some v_p_bits, none, none, none] : L2.St) _ from ?_)
    refine w_drop (K := K) (e_methR (mt := "_check") (fm := ⟨H, G, E, cl⟩) (by exact fun _ _ _ _ => rfl) (e_var (K := K) (i := 0) (R := (rDn C)) (x := p_self) rfl h_p_self) (a_one (EvN.evK (e_lst (l_cons (e_var (K := K) (i := 1) (R := zI) (x := p_f) rfl rfl) l_nil) (by decide))))) hs hm (fun x1 G1 H1 e1 hs hm => ?_)
    have h_p_self := (((rDn C)).mono e1 h_p_self)
    have h_p_bits := (((rK zI)).mono e1 h_p_bits)
    refine w_drop (K := K) (e_call (fm := ⟨H, G, E, cl⟩) (a_cons (e_var (K := K) (i := 2) (R := (rK zI)) (x := p_bits) rfl h_p_bits) (a_one (e_count TD (e_var (K := K) (i := 0) (R := (rDn C)) (x := p_self) rfl h_p_self))))) hs hm (fun x2 G2 H2 e2 hs hm => ?_)
    have h_p_self := (((rDn C)).mono e2 h_p_self)
    have h_p_bits := (((rK zI)).mono e2 h_p_bits)
    refine w_whB (K := K) (Rr := zI) (fun (p_f : Int) (σ : L2.St) (G : Hp) (O : Own) => ∃ (d_3 : Option V) (d_4 : Option V) (d_5 : Option V), σ = [some v_p_self, some (.int p_f), some v_p_bits, d_3, d_4, d_5] ∧ O = []) hs hm ⟨none, none, none, rfl, rfl⟩ (fun _ _ _ _ _ _ _ h => h.elim) (fun p_f σ_ G1_3 G3 O_ e3 w_ e13 => ?_) (fun p_f σ_ G1_3 G3 O_ H3 D3 Qb3 e3 w_ e13 hs E3 hm => ?_) (fun p_f σ_ G1_3 G3 O_ H3 e3 w_ e13 hs hm => ?_)
    · obtain ⟨d_3, d_4, d_5, rfl, rfl⟩ := w_
      have h_p_self := (((rDn C)).mono e3 h_p_self)
      have h_p_bits := (((rK zI)).mono e3 h_p_bits)
      exact (t_test (K := K) (e_cmp (p := fun i j => decide (j < i)) (e_var (K := K) (i := 1) (R := zI) (x := p_f) rfl rfl) e_int))
    · obtain ⟨d_3, d_4, d_5, rfl, rfl⟩ := w_
      have h_p_self := (((rDn C)).mono e3 h_p_self)
      have h_p_bits := (((rK zI)).mono e3 h_p_bits)
      have b3 := Same.refl G3
      refine (show (_ : TS) _ ([some v_p_self, some (.int p_f), some v_p_bits, d_3, d_4, d_5] : L2.St) _ from ?_)
      unfold m_D_value_b6 at hm
      try dsimp only at hm
      refine w_asg (K := K) (tg_tup3) (e_get (e_ixL (e_KL (e_nodes TD (e_var (K := K) (i := 0) (R := (rDn C)) (x := p_self) rfl h_p_self))) (e_var (K := K) (i := 1) (R := zI) (x := p_f) rfl rfl))) hs hm (fun p4 vv4 G4 H4 e4 hs hv4 hm => ?_)
      obtain ⟨p_variable, p_low, p_high⟩ := p4
      obtain ⟨v_p_variable, _, rfl, h_p_variable, v_p_low, _, rfl, h_p_low, v_p_high, rfl, h_p_high⟩ := hv4
      cases (show v_p_variable = V.int p_variable from h_p_variable)
      cases (show v_p_low = V.int p_low from h_p_low)
      cases (show v_p_high = V.int p_high from h_p_high)
      have h_p_self := (((rDn C)).mono e4 h_p_self)
      have h_p_bits := (((rK zI)).mono e4 h_p_bits)
      have b3 := Same.trans b3 e4
      refine (show (_ : TS) _ ([some v_p_self, some (.int p_f), some v_p_bits, some (.int p_variable), some (.int p_low), some (.int p_high)] : L2.St) _ from ?_)
      refine w_asg (K := K) (tg_name (i := 1) (R := zI)) (e_ifExp (t_test (K := K) (e_eq srI (e_ixL (e_KL (e_var (K := K) (i := 2) (R := (rK zI)) (x := p_bits) rfl h_p_bits)) (e_var (K := K) (i := 3) (R := zI) (x := p_variable) rfl rfl)) e_int)) (e_var (K := K) (i := 5) (R := zI) (x := p_high) rfl rfl) (e_var (K := K) (i := 4) (R := zI) (x := p_low) rfl rfl)) hs hm (fun p_f vv5 G5 H5 e5 hs hv5 hm => ?_)
      obtain ⟨v_p_f, rfl, h_p_f⟩ := hv5
      cases (show v_p_f = V.int p_f from h_p_f)
      have h_p_self := (((rDn C)).mono e5 h_p_self)
      have h_p_bits := (((rK zI)).mono e5 h_p_bits)
      have b3 := Same.trans b3 e5
      refine (show (_ : TS) _ ([some v_p_self, some (.int p_f), some v_p_bits, some (.int p_variable), some (.int p_low), some (.int p_high)] : L2.St) _ from ?_)
      exact E3.nx p_f _ _ _ _ _ b3 ⟨some (.int p_variable), some (.int p_low), some (.int p_high), rfl, rfl⟩ (Same.refl _) hs hm.out
    · obtain ⟨d_3, d_4, d_5, rfl, rfl⟩ := w_
      have h_p_self := (((rDn C)).mono e3 h_p_self)
      have h_p_bits := (((rK zI)).mono e3 h_p_bits)
      refine (show (_ : TS) _ ([some v_p_self, some (.int p_f), some v_p_bits, d_3, d_4, d_5] : L2.St) _ from ?_)
      try dsimp only at hm
      exact w_ret0 (K := K) (e_var (K := K) (i := 1) (R := zI) (x := p_f) rfl rfl) hs hm fun r v G2 H2 hs2 hr2 hq => hq v G2 H2 hs2.fin hr2

theorem ok_D_first_case {P : Program} {w : World} {K : PySem.W.Frag} {mg : Str → Option Value} {base : Heap} {cl : Nat → Addr} {fa : Addr} {fd : FuncData} (F : Fun K "first_case" "Diagrams.first_case" s_D_first_case fa fd) (T : Txt K mg cl) {C : Addr} (TD : DFacts K C) (C_D_check : MCal P w K mg base C "_check" 1 ["self", "numbers"] (spP K cl (rsC (rDn C) (rs1 (rK zI))) rN (fun a => m_D_check (a.1) (a.2)))) :
    FnOk P w K mg base (L2.CX P w) 2 fa fd ["self", "f"] (spP K cl (rsC (rDn C) (rs1 zI)) (rO zI) (fun a => m_D_first_case (a.1) (a.2))) := by
  refine F.okX sc_D_first_case (fun vs H Q E h => ?_) (fun cdv A outer s H vs Q E hr h => ?_)
  · obtain ⟨G, a, _, hS, _⟩ := h
    exact (lnC ln1) _ _ _ _ hS
  · obtain ⟨G, ⟨p_self, p_f⟩, hg, hS, hm⟩ := h
    obtain ⟨v_p_self, _, rfl, h_p_self, v_p_f, rfl, h_p_f⟩ := hS
    cases (show v_p_f = V.int p_f from h_p_f)
    have tk : Takes (cxOf (L2.CX P w) P w K mg base N_D_first_case "Diagrams.first_case" (defScope s_D_first_case) fa cdv A outer s H E) (fun cls d _ H => E cls d H) := takes_of rfl rfl rfl rfl
    refine ⟨_, (pss_cons (ps_expr (pe_meth (E := E) (pv 0) TD.cl C_D_check.me C_D_check.ok (hr.mono (by decide)) C_D_check.bd .nil (passes_call tk (fun _ _ _ _ h => h)) (pa_cons (pe_lst (pa_cons (pv 1) pa_nil)) pa_nil)))
     (pss_cons (ps_if (pt_cmpR op_eq (pv 1) (pe_glob (v := .int (0)) rfl T.c_ZERO.choose_spec ⟨_, rfl⟩) (nomark _)) (pss_cons (ps_ret pe_non)
     pss_nil) pss_nil)
     (pss_cons (ps_set (i := 2) sc_D_first_case.nd rfl (by first | exact Or.inl rfl | exact Or.inr rfl) pe_int)
     (pss_cons (ps_while (passes_of rfl) (pt_cmpR op_gt (pv 1) (pe_glob (v := .int (1)) rfl T.c_ONE.choose_spec ⟨_, rfl⟩) (nomark _)) (pss_cons (ps_asg (pe_ix (r := rIxL K) ix_list (pe_fld (pv 0) rfl) (pv 1) (fun _ _ => rfl)) (show PG _ _ (gTup K 3 _) from pg_tup rfl (pgs_cons (pg_name (i := 3) sc_D_first_case.nd rfl (by first | exact Or.inl rfl | exact Or.inr rfl)) (pgs_cons (pg_name (i := 4) sc_D_first_case.nd rfl (by first | exact Or.inl rfl | exact Or.inr rfl)) (pgs_cons (pg_name (i := 5) sc_D_first_case.nd rfl (by first | exact Or.inl rfl | exact Or.inr rfl)) pgs_nil)))))
     (pss_cons (ps_if (pt_cmpR op_eq (pv 4) (pe_glob (v := .int (0)) rfl T.c_ZERO.choose_spec ⟨_, rfl⟩) (nomark _)) (pss_cons (ps_aug (i := 2) sc_D_first_case.nd rfl (by first | exact Or.inl rfl | exact Or.inr rfl) (pe_op op_shl pe_int (pv 3)) ip_add)
     (pss_cons (ps_set (i := 1) sc_D_first_case.nd rfl (by first | exact Or.inl rfl | exact Or.inr rfl) (pv 5))
     pss_nil)) (pss_cons (ps_set (i := 1) sc_D_first_case.nd rfl (by first | exact Or.inl rfl | exact Or.inr rfl) (pv 4))
     pss_nil))
     pss_nil)))
     (pss_cons (ps_ret (pv 2))
     pss_nil))))), ?_⟩
    have hs : Hs ⟨H, G, E, cl⟩ G [] H := Hs.start hg
    have hm := Wp.ofSp (G0 := G) hm
    try dsimp only at hm
    unfold m_D_first_case at hm
    refine (show (_ : TS) _ ([some v_p_self, some (.int p_f), none, none, none, none] : L2.St) _ from ?_)
    refine w_drop (K := K) (e_methR (mt := "_check") (fm := ⟨H, G, E, cl⟩) (by exact fun _ _ _ _ => rfl) (e_var (K := K) (i := 0) (R := (rDn C)) (x := p_self) rfl h_p_self) (a_one (EvN.evK (e_lst (l_cons (e_var (K := K) (i := 1) (R := zI) (x := p_f) rfl rfl) l_nil) (by decide))))) hs hm (fun x1 G1 H1 e1 hs hm => ?_)
    have h_p_self := (((rDn C)).mono e1 h_p_self)
    refine w_if (t_test (K := K) (e_eq srI (e_var (K := K) (i := 1) (R := zI) (x := p_f) rfl rfl) e_int)) hs hm (fun G2 H2 e2 hs hm => ?_) (fun G2 H2 e2 hs hm => ?_)
    · have h_p_self := (((rDn C)).mono e2 h_p_self)
      exact w_ret0 (K := K) (e_nonO (R := zI)) hs hm fun r v G2 H2 hs2 hr2 hq => hq v G2 H2 hs2.fin hr2
    · have h_p_self := (((rDn C)).mono e2 h_p_self)
      refine nx_of ?_
      refine (show (_ : TS) _ ([some v_p_self, some (.int p_f), none, none, none, none] : L2.St) _ from ?_)
      refine w_asg (K := K) (tg_name (i := 2) (R := zI)) e_int hs hm (fun p_case vv3 G3 H3 e3 hs hv3 hm => ?_)
      obtain ⟨v_p_case, rfl, h_p_case⟩ := hv3
      cases (show v_p_case = V.int p_case from h_p_case)
      have h_p_self := (((rDn C)).mono e3 h_p_self)
      refine (show (_ : TS) _ ([some v_p_self, some (.int p_f), some (.int p_case), none, none, none] : L2.St) _ from ?_)
      refine w_whB (K := K) (Rr := (rO zI)) (fun (s : Int × Int) (σ : L2.St) (G : Hp) (O : Own) => match s with | (p_case, p_f) => ∃ (d_3 : Option V) (d_4 : Option V) (d_5 : Option V), σ = [some v_p_self, some (.int p_f), some (.int p_case), d_3, d_4, d_5] ∧ O = []) hs hm ⟨none, none, none, rfl, rfl⟩ (fun _ _ _ _ _ _ _ h => h.elim) (fun s_ σ_ G1_4 G4 O_ e4 w_ e14 => ?_) (fun s_ σ_ G1_4 G4 O_ H4 D4 Qb4 e4 w_ e14 hs E4 hm => ?_) (fun s_ σ_ G1_4 G4 O_ H4 e4 w_ e14 hs hm => ?_)
      · obtain ⟨p_case, p_f⟩ := s_
        obtain ⟨d_3, d_4, d_5, rfl, rfl⟩ := w_
        have h_p_self := (((rDn C)).mono e4 h_p_self)
        exact (t_test (K := K) (e_cmp (p := fun i j => decide (j < i)) (e_var (K := K) (i := 1) (R := zI) (x := p_f) rfl rfl) e_int))
      · obtain ⟨p_case, p_f⟩ := s_
        obtain ⟨d_3, d_4, d_5, rfl, rfl⟩ := w_
        have h_p_self := (((rDn C)).mono e4 h_p_self)
        have b4 := Same.refl G4
        refine (show (_ : TS) _ ([some v_p_self, some (.int p_f), some (.int p_case), d_3, d_4, d_5] : L2.St) _ from ?_)
        unfold m_D_first_case_b10 at hm
        try dsimp only at hm
        refine w_asg (K := K) (tg_tup3) (e_get (e_ixL (e_KL (e_nodes TD (e_var (K := K) (i := 0) (R := (rDn C)) (x := p_self) rfl h_p_self))) (e_var (K := K) (i := 1) (R := zI) (x := p_f) rfl rfl))) hs hm (fun p5 vv5 G5 H5 e5 hs hv5 hm => ?_)
        obtain ⟨p_variable, p_low, p_high⟩ := p5
        obtain ⟨v_p_variable, _, rfl, h_p_variable, v_p_low, _, rfl, h_p_low, v_p_high, rfl, h_p_high⟩ := hv5
        cases (show v_p_variable = V.int p_variable from h_p_variable)
        cases (show v_p_low = V.int p_low from h_p_low)
        cases (show v_p_high = V.int p_high from h_p_high)
        have h_p_self := (((rDn C)).mono e5 h_p_self)
        have b4 := Same.trans b4 e5
        refine (show (_ : TS) _ ([some v_p_self, some (.int p_f), some (.int p_case), some (.int p_variable), some (.int p_low), some (.int p_high)] : L2.St) _ from ?_)
        refine w_if (t_test (K := K) (e_eq srI (e_var (K := K) (i := 4) (R := zI) (x := p_low) rfl rfl) e_int)) hs hm (fun G6 H6 e6 hs hm => ?_) (fun G6 H6 e6 hs hm => ?_)
        · have h_p_self := (((rDn C)).mono e6 h_p_self)
          have b4 := Same.trans b4 e6
          refine w_aug (K := K) (i := 2) (f := fun i j => i + j) (x := p_case) rfl (e_shl e_int (e_var (K := K) (i := 3) (R := zI) (x := p_variable) rfl rfl)) hs hm (fun y7 G7 H7 e7 hs hm => ?_)
          have h_p_self := (((rDn C)).mono e7 h_p_self)
          have b4 := Same.trans b4 e7
          refine (show (_ : TS) _ ([some v_p_self, some (.int p_f), some (.int (p_case + y7)), some (.int p_variable), some (.int p_low), some (.int p_high)] : L2.St) _ from ?_)
          generalize p_case + y7 = p_case at hm ⊢
          refine w_asg (K := K) (tg_name (i := 1) (R := zI)) (e_var (K := K) (i := 5) (R := zI) (x := p_high) rfl rfl) hs hm (fun p_f vv8 G8 H8 e8 hs hv8 hm => ?_)
          obtain ⟨v_p_f, rfl, h_p_f⟩ := hv8
          cases (show v_p_f = V.int p_f from h_p_f)
          have h_p_self := (((rDn C)).mono e8 h_p_self)
          have b4 := Same.trans b4 e8
          refine (show (_ : TS) _ ([some v_p_self, some (.int p_f), some (.int p_case), some (.int p_variable), some (.int p_low), some (.int p_high)] : L2.St) _ from ?_)
          refine nx_of ?_
          refine (show (_ : TS) _ ([some v_p_self, some (.int p_f), some (.int p_case), some (.int p_variable), some (.int p_low), some (.int p_high)] : L2.St) _ from ?_)
          exact E4.nx (p_case, p_f) _ _ _ _ _ b4 ⟨some (.int p_variable), some (.int p_low), some (.int p_high), rfl, rfl⟩ (Same.refl _) hs hm.out
        · have h_p_self := (((rDn C)).mono e6 h_p_self)
          have b4 := Same.trans b4 e6
          refine w_asg (K := K) (tg_name (i := 1) (R := zI)) (e_var (K := K) (i := 4) (R := zI) (x := p_low) rfl rfl) hs hm (fun p_f vv9 G9 H9 e9 hs hv9 hm => ?_)
          obtain ⟨v_p_f, rfl, h_p_f⟩ := hv9
          cases (show v_p_f = V.int p_f from h_p_f)
          have h_p_self := (((rDn C)).mono e9 h_p_self)
          have b4 := Same.trans b4 e9
          refine (show (_ : TS) _ ([some v_p_self, some (.int p_f), some (.int p_case), some (.int p_variable), some (.int p_low), some (.int p_high)] : L2.St) _ from ?_)
          refine nx_of ?_
          refine (show (_ : TS) _ ([some v_p_self, some (.int p_f), some (.int p_case), some (.int p_variable), some (.int p_low), some (.int p_high)] : L2.St) _ from ?_)
          exact E4.nx (p_case, p_f) _ _ _ _ _ b4 ⟨some (.int p_variable), some (.int p_low), some (.int p_high), rfl, rfl⟩ (Same.refl _) hs hm.out
      · obtain ⟨p_case, p_f⟩ := s_
        obtain ⟨d_3, d_4, d_5, rfl, rfl⟩ := w_
        have h_p_self := (((rDn C)).mono e4 h_p_self)
        refine (show (_ : TS) _ ([some v_p_self, some (.int p_f), some (.int p_case), d_3, d_4, d_5] : L2.St) _ from ?_)
        try dsimp only at hm
        exact w_ret0 (K := K) (e_some nn_I (e_var (K := K) (i := 2) (R := zI) (x := p_case) rfl rfl)) hs hm fun r v G2 H2 hs2 hr2 hq => hq v G2 H2 hs2.fin hr2

theorem ok_product_function {P : Program} {w : World} {K : PySem.W.Frag} {mg : Str → Option Value} {base : Heap} {cl : Nat → Addr} {fa : Addr} {fd : FuncData} (F : Fun K "product_function" "product_function" s_product_function fa fd) (T : Txt K mg cl) {C : Addr} (TD : DFacts K C) (C_D_variable : MCal P w K mg base C "variable" 2 ["self", "i"] (spX K cl (ObD K C) (fun v0 => (rsV v0 (rs1 zI))) zI (fun s a => x_D_variable s a))) (C_D_both : MCal P w K mg base C "both" 16 ["self", "f", "g"] (spX K cl (ObD K C) (fun v0 => (rsV v0 (rsC zI (rs1 zI)))) zI (fun s a => x_D_both s (a.1) (a.2)))) (C_D_negate : MCal P w K mg base C "negate" 16 ["self", "f"] (spX K cl (ObD K C) (fun v0 => (rsV v0 (rs1 zI))) zI (fun s a => x_D_negate s a))) :
    FnOk P w K mg base (L2.CX P w) 17 fa fd ["diagrams", "product"] (spX K cl (ObD K C) (fun v0 => (rsV v0 (rs1 (rT zI)))) zI (fun s a => x_product_function s a)) := by
  refine F.okX sc_product_function (fun vs H Q E h => ?_) (fun cdv A outer s H vs Q E hr h => ?_)
  · obtain ⟨F1, G, O, d, v0, a, _, _, hS, _⟩ := h
    exact (lnV ln1) _ _ _ _ hS
  · obtain ⟨F1, G, O_p_diagrams, p_diagrams, v_p_diagrams, p_product, hs, h_p_diagrams, hS, hm⟩ := h
    obtain ⟨_, rfl, ⟨v_p_product, rfl, h_p_product⟩⟩ := hS
    have tk : Takes (cxOf (L2.CX P w) P w K mg base N_product_function "product_function" (defScope s_product_function) fa cdv A outer s H E) (fun cls d _ H => E cls d H) := takes_of rfl rfl rfl rfl
    refine ⟨_, (pss_cons (ps_set (i := 2) sc_product_function.nd rfl (by first | exact Or.inl rfl | exact Or.inr rfl) (pe_glob (v := .int (1)) rfl T.c_ONE.choose_spec ⟨_, rfl⟩))
     (pss_cons (ps_for (passes_of rfl) rfl (pi_enumT (by rfl) T.n_enumerate (pa_cons (pv 1) pa_nil)) (show PG _ _ (gTup K 2 _) from pg_tup rfl (pgs_cons (pg_name (i := 3) sc_product_function.nd rfl (by first | exact Or.inl rfl | exact Or.inr rfl)) (pgs_cons (pg_name (i := 4) sc_product_function.nd rfl (by first | exact Or.inl rfl | exact Or.inr rfl)) pgs_nil))) (pss_cons (ps_if (pt_cmpR op_ne (pv 4) (pe_glob (v := .int (2)) rfl T.c_FREE.choose_spec ⟨_, rfl⟩) (nomark _)) (pss_cons (ps_asg (pe_meth (E := E) (pv 0) TD.cl C_D_variable.me C_D_variable.ok (hr.mono (by decide)) C_D_variable.bd .nil (passes_call tk (fun _ _ _ _ h => h)) (pa_cons (pv 3) pa_nil)) (pg_name (i := 5) sc_product_function.nd rfl (by first | exact Or.inl rfl | exact Or.inr rfl)))
     (pss_cons (ps_asg (pe_meth (E := E) (pv 0) TD.cl C_D_both.me C_D_both.ok (hr.mono (by decide)) C_D_both.bd .nil (passes_call tk (fun _ _ _ _ h => h)) (pa_cons (pv 2) (pa_cons (pe_ifExp (pt_cmpR op_eq (pv 4) pe_int (nomark _)) (pv 5) (pe_meth (E := E) (pv 0) TD.cl C_D_negate.me C_D_negate.ok (hr.mono (by decide)) C_D_negate.bd .nil (passes_call tk (fun _ _ _ _ h => h)) (pa_cons (pv 5) pa_nil))) pa_nil))) (pg_name (i := 2) sc_product_function.nd rfl (by first | exact Or.inl rfl | exact Or.inr rfl)))
     pss_nil)) pss_nil)
     pss_nil))
     (pss_cons (ps_ret (pv 2))
     pss_nil))), ?_⟩
    have hs := Hs.wrap hs
    have hm : Wp (x_product_function p_diagrams p_product) (QX K ⟨F1, G, E, cl⟩ (ObD K C) v_p_diagrams zI Q) _ := QX.start hm
    try dsimp only at hm
    unfold x_product_function at hm
    refine (show (_ : TS) _ ([some v_p_diagrams, some v_p_product, none, none, none, none] : L2.St) _ from ?_)
    refine w_asg (K := K) (tg_name (i := 2) (R := zI)) e_int hs hm (fun p_node vv1 G1 H1 e1 hs hv1 hm => ?_)
    obtain ⟨v_p_node, rfl, h_p_node⟩ := hv1
    cases (show v_p_node = V.int p_node from h_p_node)
    have h_p_diagrams := (obD_mono _ _ _ _ _ e1 h_p_diagrams)
    have h_p_product := (((rT zI)).mono e1 h_p_product)
    refine (show (_ : TS) _ ([some v_p_diagrams, some v_p_product, some (.int p_node), none, none, none] : L2.St) _ from ?_)
    refine w_forBY (K := K) (fun (s : Int × Sd) (σ : L2.St) (G : Hp) (O : Own) => match s with | (p_node, p_diagrams) => ∃ (O_p_diagrams : Own) (d_3 : Option V) (d_4 : Option V) (d_5 : Option V), σ = [some v_p_diagrams, some v_p_product, some (.int p_node), d_3, d_4, d_5] ∧ O = [] ++ (O_p_diagrams ++ []) ∧ (ObD K C) p_diagrams v_p_diagrams G O_p_diagrams) (RTX K (ObD K C) v_p_diagrams zI) (XPX ⟨F1, G, E, cl⟩ (ObD K C) v_p_diagrams) (i_enumT (e_var (K := K) (i := 1) (R := (rT zI)) (x := p_product) rfl h_p_product)) (fun _ _ _ _ _ _ h => nomatch h) (tg_tup2) hs hm ⟨O_p_diagrams, none, none, none, rfl, rfl, h_p_diagrams⟩ rtx_fn xpx_fn (fun x2 s_ σ_ G1_2 G2 O_ H2 vv2 D2 Qb2 e2 w_ e12 hs hv2 E2 hm => ?_) (fun s_ σ_ G1_2 G2 O_ H2 e2 w_ e12 hs hm => ?_)
    · obtain ⟨p_node, p_diagrams⟩ := s_
      obtain ⟨O_p_diagrams, d_3, d_4, d_5, rfl, rfl, h_p_diagrams⟩ := w_
      have h_p_product := (((rT zI)).mono e2 h_p_product)
      have h_p_diagrams := (obD_mono _ _ _ _ _ e12 h_p_diagrams)
      obtain ⟨p_variable, p_mark⟩ := x2
      obtain ⟨v_p_variable, _, rfl, h_p_variable, v_p_mark, rfl, h_p_mark⟩ := hv2
      cases (show v_p_variable = V.int p_variable from h_p_variable)
      cases (show v_p_mark = V.int p_mark from h_p_mark)
      have b2 := Same.refl G2
      refine (show (_ : TS) _ ([some v_p_diagrams, some v_p_product, some (.int p_node), some (.int p_variable), some (.int p_mark), d_5] : L2.St) _ from ?_)
      unfold x_product_function_b6 at hm
      try dsimp only at hm
      refine w_if (t_test (K := K) (e_ne srI (e_var (K := K) (i := 4) (R := zI) (x := p_mark) rfl rfl) e_int)) hs hm (fun G3 H3 e3 hs hm => ?_) (fun G3 H3 e3 hs hm => ?_)
      · have h_p_diagrams := (obD_mono _ _ _ _ _ e3 h_p_diagrams)
        have h_p_product := (((rT zI)).mono e3 h_p_product)
        have b2 := Same.trans b2 e3
        refine w_asgY (K := K) (La := []) (Lb := []) (O := O_p_diagrams) (tg_name (i := 5) (R := zI)) (y_meth (mt := "variable") (fm := ⟨F1, G, E, cl⟩) (S := (rs1 zI)) (h := fun s a => x_D_variable s a) (objD (by exact fun _ _ _ _ => rfl)) rfl (yA_one (y_pure0 obmD (fun Fz _ => (e_var (K := K) (i := 3) (R := zI) (x := p_variable) rfl rfl))))) hs h_p_diagrams (hx_loop E2) hm (fun p_literal p_diagrams vv4 G4 O_p_diagrams H4 e4 hs hd4 hv4 hm => ?_)
        try dsimp only at hm
        obtain ⟨v_p_literal, rfl, h_p_literal⟩ := hv4
        cases (show v_p_literal = V.int p_literal from h_p_literal)
        have h_p_product := (((rT zI)).mono e4 h_p_product)
        have h_p_diagrams := hd4
        have b2 := Same.trans b2 e4
        refine (show (_ : TS) _ ([some v_p_diagrams, some v_p_product, some (.int p_node), some (.int p_variable), some (.int p_mark), some (.int p_literal)] : L2.St) _ from ?_)
        refine w_asgY (K := K) (La := []) (Lb := []) (O := O_p_diagrams) (tg_name (i := 2) (R := zI)) (y_meth (mt := "both") (fm := ⟨F1, G, E, cl⟩) (S := (rsC zI (rs1 zI))) (h := fun s a => x_D_both s (a.1) (a.2)) (objD (by exact fun _ _ _ _ => rfl)) rfl (yA_cons (y_pure0 obmD (fun Fz _ => (e_var (K := K) (i := 2) (R := zI) (x := p_node) rfl rfl))) (yA_one (y_ite (yt_pure0 obmD (fun Fz _ => (t_test (K := K) (e_eq srI (e_var (K := K) (i := 4) (R := zI) (x := p_mark) rfl rfl) e_int)))) (y_pure0 obmD (fun Fz _ => (e_var (K := K) (i := 5) (R := zI) (x := p_literal) rfl rfl))) (y_meth (mt := "negate") (fm := ⟨F1, G, E, cl⟩) (S := (rs1 zI)) (h := fun s a => x_D_negate s a) (objD (by exact fun _ _ _ _ => rfl)) rfl (yA_one (y_pure0 obmD (fun Fz _ => (e_var (K := K) (i := 5) (R := zI) (x := p_literal) rfl rfl))))))))) hs h_p_diagrams (hx_loop E2) hm (fun p_node p_diagrams vv5 G5 O_p_diagrams H5 e5 hs hd5 hv5 hm => ?_)
        try dsimp only at hm
        obtain ⟨v_p_node, rfl, h_p_node⟩ := hv5
        cases (show v_p_node = V.int p_node from h_p_node)
        have h_p_product := (((rT zI)).mono e5 h_p_product)
        have h_p_diagrams := hd5
        have b2 := Same.trans b2 e5
        refine (show (_ : TS) _ ([some v_p_diagrams, some v_p_product, some (.int p_node), some (.int p_variable), some (.int p_mark), some (.int p_literal)] : L2.St) _ from ?_)
        refine nx_of ?_
        refine (show (_ : TS) _ ([some v_p_diagrams, some v_p_product, some (.int p_node), some (.int p_variable), some (.int p_mark), some (.int p_literal)] : L2.St) _ from ?_)
        exact E2.nx (p_node, p_diagrams) _ _ _ _ _ b2 ⟨O_p_diagrams, some (.int p_variable), some (.int p_mark), some (.int p_literal), rfl, rfl, h_p_diagrams⟩ (Same.refl _) hs hm.out
      · have h_p_diagrams := (obD_mono _ _ _ _ _ e3 h_p_diagrams)
        have h_p_product := (((rT zI)).mono e3 h_p_product)
        have b2 := Same.trans b2 e3
        refine nx_of ?_
        refine (show (_ : TS) _ ([some v_p_diagrams, some v_p_product, some (.int p_node), some (.int p_variable), some (.int p_mark), d_5] : L2.St) _ from ?_)
        exact E2.nx (p_node, p_diagrams) _ _ _ _ _ b2 ⟨O_p_diagrams, some (.int p_variable), some (.int p_mark), d_5, rfl, rfl, h_p_diagrams⟩ (Same.refl _) hs hm.out
    · obtain ⟨p_node, p_diagrams⟩ := s_
      obtain ⟨O_p_diagrams, d_3, d_4, d_5, rfl, rfl, h_p_diagrams⟩ := w_
      have h_p_product := (((rT zI)).mono e2 h_p_product)
      have h_p_diagrams := (obD_mono _ _ _ _ _ e12 h_p_diagrams)
      refine (show (_ : TS) _ ([some v_p_diagrams, some v_p_product, some (.int p_node), d_3, d_4, d_5] : L2.St) _ from ?_)
      try dsimp only at hm
      exact w_retY (K := K) (La := []) (Lb := []) (O := O_p_diagrams) (kr := fun r d => (Xr.ok r, d)) (y_pure0 obmD (fun Fz _ => (e_var (K := K) (i := 2) (R := zI) (x := p_node) rfl rfl))) hs h_p_diagrams hx_fn hm fun x d v G2 O2 H2 e2 hs2 ob2 hr2 hq => QX.ret hq hs2 ob2 hr2

theorem ok_cover_function {P : Program} {w : World} {K : PySem.W.Frag} {mg : Str → Option Value} {base : Heap} {cl : Nat → Addr} {fa : Addr} {fd : FuncData} (F : Fun K "cover_function" "cover_function" s_cover_function fa fd) (T : Txt K mg cl) {C : Addr} (TD : DFacts K C) (C_D_either : MCal P w K mg base C "either" 16 ["self", "f", "g"] (spX K cl (ObD K C) (fun v0 => (rsV v0 (rsC zI (rs1 zI)))) zI (fun s a => x_D_either s (a.1) (a.2)))) (C_product_function : Cal P w K mg base "product_function" 17 ["diagrams", "product"] (spX K cl (ObD K C) (fun v0 => (rsV v0 (rs1 (rT zI)))) zI (fun s a => x_product_function s a))) :
    FnOk P w K mg base (L2.CX P w) 18 fa fd ["diagrams", "cover"] (spX K cl (ObD K C) (fun v0 => (rsV v0 (rs1 (rK (rT zI))))) zI (fun s a => x_cover_function s a)) := by
  refine F.okX sc_cover_function (fun vs H Q E h => ?_) (fun cdv A outer s H vs Q E hr h => ?_)
  · obtain ⟨F1, G, O, d, v0, a, _, _, hS, _⟩ := h
    exact (lnV ln1) _ _ _ _ hS
  · obtain ⟨F1, G, O_p_diagrams, p_diagrams, v_p_diagrams, p_cover, hs, h_p_diagrams, hS, hm⟩ := h
    obtain ⟨_, rfl, ⟨v_p_cover, rfl, h_p_cover⟩⟩ := hS
    have tk : Takes (cxOf (L2.CX P w) P w K mg base N_cover_function "cover_function" (defScope s_cover_function) fa cdv A outer s H E) (fun cls d _ H => E cls d H) := takes_of rfl rfl rfl rfl
    refine ⟨_, (pss_cons (ps_set (i := 2) sc_cover_function.nd rfl (by first | exact Or.inl rfl | exact Or.inr rfl) (pe_glob (v := .int (0)) rfl T.c_ZERO.choose_spec ⟨_, rfl⟩))
     (pss_cons (ps_for (passes_of rfl) rfl (pi_list (pv 1)) (pg_name (i := 3) sc_cover_function.nd rfl (by first | exact Or.inl rfl | exact Or.inr rfl)) (pss_cons (ps_asg (pe_meth (E := E) (pv 0) TD.cl C_D_either.me C_D_either.ok (hr.mono (by decide)) C_D_either.bd .nil (passes_call tk (fun _ _ _ _ h => h)) (pa_cons (pv 2) (pa_cons (pe_call (E := E) C_product_function.ok (hr.mono (by decide)) rfl C_product_function.mgx C_product_function.kp C_product_function.bd .nil (passes_call tk (fun _ _ _ _ h => h)) (pa_cons (pv 0) (pa_cons (pv 3) pa_nil))) pa_nil))) (pg_name (i := 2) sc_cover_function.nd rfl (by first | exact Or.inl rfl | exact Or.inr rfl)))
     pss_nil))
     (pss_cons (ps_ret (pv 2))
     pss_nil))), ?_⟩
    have hs := Hs.wrap hs
    have hm : Wp (x_cover_function p_diagrams p_cover) (QX K ⟨F1, G, E, cl⟩ (ObD K C) v_p_diagrams zI Q) _ := QX.start hm
    try dsimp only at hm
    unfold x_cover_function at hm
    refine (show (_ : TS) _ ([some v_p_diagrams, some v_p_cover, none, none] : L2.St) _ from ?_)
    refine w_asg (K := K) (tg_name (i := 2) (R := zI)) e_int hs hm (fun p_node vv1 G1 H1 e1 hs hv1 hm => ?_)
    obtain ⟨v_p_node, rfl, h_p_node⟩ := hv1
    cases (show v_p_node = V.int p_node from h_p_node)
    have h_p_diagrams := (obD_mono _ _ _ _ _ e1 h_p_diagrams)
    have h_p_cover := (((rK (rT zI))).mono e1 h_p_cover)
    refine (show (_ : TS) _ ([some v_p_diagrams, some v_p_cover, some (.int p_node), none] : L2.St) _ from ?_)
    refine w_forBY (K := K) (fun (s : Int × Sd) (σ : L2.St) (G : Hp) (O : Own) => match s with | (p_node, p_diagrams) => ∃ (O_p_diagrams : Own) (d_3 : Option V), σ = [some v_p_diagrams, some v_p_cover, some (.int p_node), d_3] ∧ O = [] ++ (O_p_diagrams ++ []) ∧ (ObD K C) p_diagrams v_p_diagrams G O_p_diagrams) (RTX K (ObD K C) v_p_diagrams zI) (XPX ⟨F1, G, E, cl⟩ (ObD K C) v_p_diagrams) (i_list (e_KL (e_var (K := K) (i := 1) (R := (rK (rT zI))) (x := p_cover) rfl h_p_cover))) (fun _ _ _ _ _ _ h => nomatch h) (tg_name (i := 3) (R := (rT zI))) hs hm ⟨O_p_diagrams, none, rfl, rfl, h_p_diagrams⟩ rtx_fn xpx_fn (fun p_product s_ σ_ G1_2 G2 O_ H2 vv2 D2 Qb2 e2 w_ e12 hs hv2 E2 hm => ?_) (fun s_ σ_ G1_2 G2 O_ H2 e2 w_ e12 hs hm => ?_)
    · obtain ⟨p_node, p_diagrams⟩ := s_
      obtain ⟨O_p_diagrams, d_3, rfl, rfl, h_p_diagrams⟩ := w_
      have h_p_cover := (((rK (rT zI))).mono e2 h_p_cover)
      have h_p_diagrams := (obD_mono _ _ _ _ _ e12 h_p_diagrams)
      obtain ⟨v_p_product, rfl, h_p_product⟩ := hv2
      have b2 := Same.refl G2
      refine (show (_ : TS) _ ([some v_p_diagrams, some v_p_cover, some (.int p_node), some v_p_product] : L2.St) _ from ?_)
      unfold x_cover_function_b4 at hm
      try dsimp only at hm
      refine w_asgY (K := K) (La := []) (Lb := []) (O := O_p_diagrams) (tg_name (i := 2) (R := zI)) (y_meth (mt := "either") (fm := ⟨F1, G, E, cl⟩) (S := (rsC zI (rs1 zI))) (h := fun s a => x_D_either s (a.1) (a.2)) (objD (by exact fun _ _ _ _ => rfl)) rfl (yA_cons (y_pure0 obmD (fun Fz _ => (e_var (K := K) (i := 2) (R := zI) (x := p_node) rfl rfl))) (yA_one (y_call (fm := ⟨F1, G, E, cl⟩) (S := fun v0 => (rsV v0 (rs1 (rT zI)))) (h := fun s a => x_product_function s a) (yA_obj rfl (yA_one (y_pure0 obmD (fun Fz _ => (e_var (K := K) (i := 3) (R := (rT zI)) (x := p_product) rfl h_p_product))))))))) hs h_p_diagrams (hx_loop E2) hm (fun p_node p_diagrams vv3 G3 O_p_diagrams H3 e3 hs hd3 hv3 hm => ?_)
      try dsimp only at hm
      obtain ⟨v_p_node, rfl, h_p_node⟩ := hv3
      cases (show v_p_node = V.int p_node from h_p_node)
      have h_p_cover := (((rK (rT zI))).mono e3 h_p_cover)
      have h_p_product := (((rT zI)).mono e3 h_p_product)
      have h_p_diagrams := hd3
      have b2 := Same.trans b2 e3
      refine (show (_ : TS) _ ([some v_p_diagrams, some v_p_cover, some (.int p_node), some v_p_product] : L2.St) _ from ?_)
      exact E2.nx (p_node, p_diagrams) _ _ _ _ _ b2 ⟨O_p_diagrams, some v_p_product, rfl, rfl, h_p_diagrams⟩ (Same.refl _) hs hm.out
    · obtain ⟨p_node, p_diagrams⟩ := s_
      obtain ⟨O_p_diagrams, d_3, rfl, rfl, h_p_diagrams⟩ := w_
      have h_p_cover := (((rK (rT zI))).mono e2 h_p_cover)
      have h_p_diagrams := (obD_mono _ _ _ _ _ e12 h_p_diagrams)
      refine (show (_ : TS) _ ([some v_p_diagrams, some v_p_cover, some (.int p_node), d_3] : L2.St) _ from ?_)
      try dsimp only at hm
      exact w_retY (K := K) (La := []) (Lb := []) (O := O_p_diagrams) (kr := fun r d => (Xr.ok r, d)) (y_pure0 obmD (fun Fz _ => (e_var (K := K) (i := 2) (R := zI) (x := p_node) rfl rfl))) hs h_p_diagrams hx_fn hm fun x d v G2 O2 H2 e2 hs2 ob2 hr2 hq => QX.ret hq hs2 ob2 hr2

theorem ok_without {P : Program} {w : World} {K : PySem.W.Frag} {mg : Str → Option Value} {base : Heap} {cl : Nat → Addr} {fa : Addr} {fd : FuncData} (F : Fun K "without" "without" s_without fa fd) (T : Txt K mg cl) {C : Addr} (TD : DFacts K C) (C_D_choose : MCal P w K mg base C "choose" 15 ["self", "f", "g", "h"] (spX K cl (ObD K C) (fun v0 => (rsV v0 (rsC zI (rsC zI (rs1 zI))))) zI (fun s a => x_D_choose s (a.1) (a.2.1) (a.2.2)))) :
    FnOk P w K mg base (L2.CX P w) 16 fa fd ["diagrams", "f", "g"] (spX K cl (ObD K C) (fun v0 => (rsV v0 (rsC zI (rs1 zI)))) zI (fun s a => x_without s (a.1) (a.2))) := by
  refine F.okX sc_without (fun vs H Q E h => ?_) (fun cdv A outer s H vs Q E hr h => ?_)
  · obtain ⟨F1, G, O, d, v0, a, _, _, hS, _⟩ := h
    exact (lnV (lnC ln1)) _ _ _ _ hS
  · obtain ⟨F1, G, O_p_diagrams, p_diagrams, v_p_diagrams, ⟨p_f, p_g⟩, hs, h_p_diagrams, hS, hm⟩ := h
    obtain ⟨_, rfl, ⟨v_p_f, _, rfl, h_p_f, ⟨v_p_g, rfl, h_p_g⟩⟩⟩ := hS
    cases (show v_p_f = V.int p_f from h_p_f)
    cases (show v_p_g = V.int p_g from h_p_g)
    have tk : Takes (cxOf (L2.CX P w) P w K mg base N_without "without" (defScope s_without) fa cdv A outer s H E) (fun cls d _ H => E cls d H) := takes_of rfl rfl rfl rfl
    refine ⟨_, (pss_cons (ps_ret (pe_meth (E := E) (pv 0) TD.cl C_D_choose.me C_D_choose.ok (hr.mono (by decide)) C_D_choose.bd .nil (passes_call tk (fun _ _ _ _ h => h)) (pa_cons (pv 2) (pa_cons (pe_glob (v := .int (0)) rfl T.c_ZERO.choose_spec ⟨_, rfl⟩) (pa_cons (pv 1) pa_nil)))))
     pss_nil), ?_⟩
    have hs := Hs.wrap hs
    have hm : Wp (x_without p_diagrams p_f p_g) (QX K ⟨F1, G, E, cl⟩ (ObD K C) v_p_diagrams zI Q) _ := QX.start hm
    try dsimp only at hm
    unfold x_without at hm
    refine (show (_ : TS) _ ([some v_p_diagrams, some (.int p_f), some (.int p_g)] : L2.St) _ from ?_)
    exact w_retY (K := K) (La := []) (Lb := []) (O := O_p_diagrams) (kr := fun r d => (Xr.ok r, d)) (y_meth (mt := "choose") (fm := ⟨F1, G, E, cl⟩) (S := (rsC zI (rsC zI (rs1 zI)))) (h := fun s a => x_D_choose s (a.1) (a.2.1) (a.2.2)) (objD (by exact fun _ _ _ _ => rfl)) rfl (yA_cons (y_pure0 obmD (fun Fz _ => (e_var (K := K) (i := 2) (R := zI) (x := p_g) rfl rfl))) (yA_cons (y_pure0 obmD (fun Fz _ => e_int)) (yA_one (y_pure0 obmD (fun Fz _ => (e_var (K := K) (i := 1) (R := zI) (x := p_f) rfl rfl))))))) hs h_p_diagrams hx_fn hm fun x d v G2 O2 H2 e2 hs2 ob2 hr2 hq => QX.ret hq hs2 ob2 hr2

theorem ok_with_mark {P : Program} {w : World} {K : PySem.W.Frag} {mg : Str → Option Value} {base : Heap} {cl : Nat → Addr} {fa : Addr} {fd : FuncData} (F : Fun K "with_mark" "with_mark" s_with_mark fa fd) (T : Txt K mg cl)  :
    FnOk P w K mg base (L2.CX P w) 1 fa fd ["product", "place", "mark"] (spP K cl (rsC (rT zI) (rsC zI (rs1 zI))) (rT zI) (fun a => m_with_mark (a.1) (a.2.1) (a.2.2))) := by
  refine F.okX sc_with_mark (fun vs H Q E h => ?_) (fun cdv A outer s H vs Q E hr h => ?_)
  · obtain ⟨G, a, _, hS, _⟩ := h
    exact (lnC (lnC ln1)) _ _ _ _ hS
  · obtain ⟨G, ⟨p_product, p_place, p_mark⟩, hg, hS, hm⟩ := h
    obtain ⟨v_p_product, _, rfl, h_p_product, v_p_place, _, rfl, h_p_place, v_p_mark, rfl, h_p_mark⟩ := hS
    cases (show v_p_place = V.int p_place from h_p_place)
    cases (show v_p_mark = V.int p_mark from h_p_mark)
    refine ⟨_, (pss_cons (ps_ret (pe_op (r := rCatA K) op_catA (pe_op (r := rCatA K) op_catA (pe_slice (r := rSlA K) sl_tupA (pv 0) po_none (po_some (pv 1))) (pe_tup (pa_cons (pv 2) pa_nil))) (pe_slice (r := rSlA K) sl_tupA (pv 0) (po_some (pe_op op_add (pv 1) pe_int)) po_none)))
     pss_nil), ?_⟩
    have hs : Hs ⟨H, G, E, cl⟩ G [] H := Hs.start hg
    have hm := Wp.ofSp (G0 := G) hm
    try dsimp only at hm
    unfold m_with_mark at hm
    refine (show (_ : TS) _ ([some v_p_product, some (.int p_place), some (.int p_mark)] : L2.St) _ from ?_)
    exact w_ret0 (K := K) (e_catT (e_catT (e_sliceT (e_var (K := K) (i := 0) (R := (rT zI)) (x := p_product) rfl h_p_product) o_none (o_some (K := K) (e_var (K := K) (i := 1) (R := zI) (x := p_place) rfl rfl))) (e_tupT (l_cons (e_var (K := K) (i := 2) (R := zI) (x := p_mark) rfl rfl) l_nil) (by decide))) (e_sliceT (e_var (K := K) (i := 0) (R := (rT zI)) (x := p_product) rfl h_p_product) (o_some (K := K) (e_add (e_var (K := K) (i := 1) (R := zI) (x := p_place) rfl rfl) e_int)) o_none)) hs hm fun r v G2 H2 hs2 hr2 hq => hq v G2 H2 hs2.fin hr2

theorem ok_check_place {P : Program} {w : World} {K : PySem.W.Frag} {mg : Str → Option Value} {base : Heap} {cl : Nat → Addr} {fa : Addr} {fd : FuncData} (F : Fun K "check_place" "check_place" s_check_place fa fd) (T : Txt K mg cl)  :
    FnOk P w K mg base (L2.CX P w) 1 fa fd ["items", "place"] (spP K cl (rsC rSq (rs1 zI)) rN (fun a => m_check_place (a.1) (a.2))) := by
  refine F.okX sc_check_place (fun vs H Q E h => ?_) (fun cdv A outer s H vs Q E hr h => ?_)
  · obtain ⟨G, a, _, hS, _⟩ := h
    exact (lnC ln1) _ _ _ _ hS
  · obtain ⟨G, ⟨p_items, p_place⟩, hg, hS, hm⟩ := h
    obtain ⟨v_p_items, _, rfl, h_p_items, v_p_place, rfl, h_p_place⟩ := hS
    cases (show v_p_place = V.int p_place from h_p_place)
    have tk : Takes (cxOf (L2.CX P w) P w K mg base N_check_place "check_place" (defScope s_check_place) fa cdv A outer s H E) (fun cls d _ H => E cls d H) := takes_of rfl rfl rfl rfl
    refine ⟨_, (pss_cons (ps_if (pt_not (pt_chain op_le op_lt pe_int (pv 1) (pe_callB (r := Mw.rLen K) call_len (by rfl) T.n_len b_len (pa_cons (pv 0) pa_nil)))) (pss_cons (ps_raise rfl tk (pmk_own PySem.F.excBase_ValueError T.x_0 T.g_0 T.k_0 (raises_own T.b_0 T.t_0) (by exact rfl)))
     pss_nil) pss_nil)
     pss_nil), ?_⟩
    have hs : Hs ⟨H, G, E, cl⟩ G [] H := Hs.start hg
    have hm := Wp.ofSp (G0 := G) hm
    try dsimp only at hm
    unfold m_check_place at hm
    refine (show (_ : TS) _ ([some v_p_items, some (.int p_place)] : L2.St) _ from ?_)
    refine w_if (t_not (t_test (K := K) (e_chain e_int (e_var (K := K) (i := 1) (R := zI) (x := p_place) rfl rfl) (e_lenSq (e_var (K := K) (i := 0) (R := rSq) (x := p_items) rfl h_p_items))))) hs hm (fun G1 H1 e1 hs hm => ?_) (fun G1 H1 e1 hs hm => ?_)
    · have h_p_items := ((rSq).mono e1 h_p_items)
      exact hm.out _ none hs.fr rfl
    · have h_p_items := ((rSq).mono e1 h_p_items)
      refine nx_of ?_
      refine (show (_ : TS) _ ([some v_p_items, some (.int p_place)] : L2.St) _ from ?_)
      exact hm.out .non _ _ hs.fin rfl

theorem ok_check_node {P : Program} {w : World} {K : PySem.W.Frag} {mg : Str → Option Value} {base : Heap} {cl : Nat → Addr} {fa : Addr} {fd : FuncData} (F : Fun K "check_node" "check_node" s_check_node fa fd) (T : Txt K mg cl) {C : Addr} (TD : DFacts K C) (C_D_choose : MCal P w K mg base C "choose" 15 ["self", "f", "g", "h"] (spX K cl (ObD K C) (fun v0 => (rsV v0 (rsC zI (rsC zI (rs1 zI))))) zI (fun s a => x_D_choose s (a.1) (a.2.1) (a.2.2)))) :
    FnOk P w K mg base (L2.CX P w) 16 fa fd ["diagrams", "number"] (spX K cl (ObD K C) (fun v0 => (rsV v0 (rs1 zI))) rN (fun s a => x_check_node s a)) := by
  refine F.okX sc_check_node (fun vs H Q E h => ?_) (fun cdv A outer s H vs Q E hr h => ?_)
  · obtain ⟨F1, G, O, d, v0, a, _, _, hS, _⟩ := h
    exact (lnV ln1) _ _ _ _ hS
  · obtain ⟨F1, G, O_p_diagrams, p_diagrams, v_p_diagrams, p_number, hs, h_p_diagrams, hS, hm⟩ := h
    obtain ⟨_, rfl, ⟨v_p_number, rfl, h_p_number⟩⟩ := hS
    cases (show v_p_number = V.int p_number from h_p_number)
    have tk : Takes (cxOf (L2.CX P w) P w K mg base N_check_node "check_node" (defScope s_check_node) fa cdv A outer s H E) (fun cls d _ H => E cls d H) := takes_of rfl rfl rfl rfl
    refine ⟨_, (pss_cons (ps_expr (pe_meth (E := E) (pv 0) TD.cl C_D_choose.me C_D_choose.ok (hr.mono (by decide)) C_D_choose.bd .nil (passes_call tk (fun _ _ _ _ h => h)) (pa_cons (pe_glob (v := .int (1)) rfl T.c_ONE.choose_spec ⟨_, rfl⟩) (pa_cons (pv 1) (pa_cons (pe_glob (v := .int (0)) rfl T.c_ZERO.choose_spec ⟨_, rfl⟩) pa_nil)))))
     pss_nil), ?_⟩
    have hs := Hs.wrap hs
    have hm : Wp (x_check_node p_diagrams p_number) (QX K ⟨F1, G, E, cl⟩ (ObD K C) v_p_diagrams rN Q) _ := QX.start hm
    try dsimp only at hm
    unfold x_check_node at hm
    refine (show (_ : TS) _ ([some v_p_diagrams, some (.int p_number)] : L2.St) _ from ?_)
    refine w_dropY (K := K) (La := []) (Lb := []) (O := O_p_diagrams) (y_meth (mt := "choose") (fm := ⟨F1, G, E, cl⟩) (S := (rsC zI (rsC zI (rs1 zI)))) (h := fun s a => x_D_choose s (a.1) (a.2.1) (a.2.2)) (objD (by exact fun _ _ _ _ => rfl)) rfl (yA_cons (y_pure0 obmD (fun Fz _ => e_int)) (yA_cons (y_pure0 obmD (fun Fz _ => (e_var (K := K) (i := 1) (R := zI) (x := p_number) rfl rfl))) (yA_one (y_pure0 obmD (fun Fz _ => e_int)))))) hs h_p_diagrams hx_fn hm (fun _ p_diagrams G1 O_p_diagrams H1 e1 hs hd1 hm => ?_)
    try dsimp only at hm
    have h_p_diagrams := hd1
    exact hm.out .non _ _ _ (Hs.only (La := []) (O := O_p_diagrams) (Lb := []) hs) h_p_diagrams rfl

theorem ok_lies_within {P : Program} {w : World} {K : PySem.W.Frag} {mg : Str → Option Value} {base : Heap} {cl : Nat → Addr} {fa : Addr} {fd : FuncData} (F : Fun K "lies_within" "lies_within" s_lies_within fa fd) (T : Txt K mg cl) {C : Addr} (TD : DFacts K C) (C_check_node : Cal P w K mg base "check_node" 16 ["diagrams", "number"] (spX K cl (ObD K C) (fun v0 => (rsV v0 (rs1 zI))) rN (fun s a => x_check_node s a))) (C_without : Cal P w K mg base "without" 16 ["diagrams", "f", "g"] (spX K cl (ObD K C) (fun v0 => (rsV v0 (rsC zI (rs1 zI)))) zI (fun s a => x_without s (a.1) (a.2)))) (C_product_function : Cal P w K mg base "product_function" 17 ["diagrams", "product"] (spX K cl (ObD K C) (fun v0 => (rsV v0 (rs1 (rT zI)))) zI (fun s a => x_product_function s a))) :
    FnOk P w K mg base (L2.CX P w) 18 fa fd ["diagrams", "product", "high"] (spX K cl (ObD K C) (fun v0 => (rsV v0 (rsC (rT zI) (rs1 zI)))) rB (fun s a => x_lies_within s (a.1) (a.2))) := by
  refine F.okX sc_lies_within (fun vs H Q E h => ?_) (fun cdv A outer s H vs Q E hr h => ?_)
  · obtain ⟨F1, G, O, d, v0, a, _, _, hS, _⟩ := h
    exact (lnV (lnC ln1)) _ _ _ _ hS
  · obtain ⟨F1, G, O_p_diagrams, p_diagrams, v_p_diagrams, ⟨p_product, p_high⟩, hs, h_p_diagrams, hS, hm⟩ := h
    obtain ⟨_, rfl, ⟨v_p_product, _, rfl, h_p_product, ⟨v_p_high, rfl, h_p_high⟩⟩⟩ := hS
    cases (show v_p_high = V.int p_high from h_p_high)
    have tk : Takes (cxOf (L2.CX P w) P w K mg base N_lies_within "lies_within" (defScope s_lies_within) fa cdv A outer s H E) (fun cls d _ H => E cls d H) := takes_of rfl rfl rfl rfl
    refine ⟨_, (pss_cons (ps_expr (pe_call (E := E) C_check_node.ok (hr.mono (by decide)) rfl C_check_node.mgx C_check_node.kp C_check_node.bd .nil (passes_call tk (fun _ _ _ _ h => h)) (pa_cons (pv 0) (pa_cons (pv 2) pa_nil))))
     (pss_cons (ps_ret (pe_cmpR op_eq (pe_call (E := E) C_without.ok (hr.mono (by decide)) rfl C_without.mgx C_without.kp C_without.bd .nil (passes_call tk (fun _ _ _ _ h => h)) (pa_cons (pv 0) (pa_cons (pe_call (E := E) C_product_function.ok (hr.mono (by decide)) rfl C_product_function.mgx C_product_function.kp C_product_function.bd .nil (passes_call tk (fun _ _ _ _ h => h)) (pa_cons (pv 0) (pa_cons (pv 1) pa_nil))) (pa_cons (pv 2) pa_nil)))) (pe_glob (v := .int (0)) rfl T.c_ZERO.choose_spec ⟨_, rfl⟩) (nomark _)))
     pss_nil)), ?_⟩
    have hs := Hs.wrap hs
    have hm : Wp (x_lies_within p_diagrams p_product p_high) (QX K ⟨F1, G, E, cl⟩ (ObD K C) v_p_diagrams rB Q) _ := QX.start hm
    try dsimp only at hm
    unfold x_lies_within at hm
    refine (show (_ : TS) _ ([some v_p_diagrams, some v_p_product, some (.int p_high)] : L2.St) _ from ?_)
    refine w_dropY (K := K) (La := []) (Lb := []) (O := O_p_diagrams) (y_call (fm := ⟨F1, G, E, cl⟩) (S := fun v0 => (rsV v0 (rs1 zI))) (h := fun s a => x_check_node s a) (yA_obj rfl (yA_one (y_pure0 obmD (fun Fz _ => (e_var (K := K) (i := 2) (R := zI) (x := p_high) rfl rfl)))))) hs h_p_diagrams hx_fn hm (fun _ p_diagrams G1 O_p_diagrams H1 e1 hs hd1 hm => ?_)
    try dsimp only at hm
    have h_p_product := (((rT zI)).mono e1 h_p_product)
    have h_p_diagrams := hd1
    exact w_retY (K := K) (La := []) (Lb := []) (O := O_p_diagrams) (kr := fun r d => (Xr.ok r, d)) (y_op2 obmD (y_call (fm := ⟨F1, G, E, cl⟩) (S := fun v0 => (rsV v0 (rsC zI (rs1 zI)))) (h := fun s a => x_without s (a.1) (a.2)) (yA_obj rfl (yA_cons (y_call (fm := ⟨F1, G, E, cl⟩) (S := fun v0 => (rsV v0 (rs1 (rT zI)))) (h := fun s a => x_product_function s a) (yA_obj rfl (yA_one (y_pure0 obmD (fun Fz _ => (e_var (K := K) (i := 1) (R := (rT zI)) (x := p_product) rfl h_p_product)))))) (yA_one (y_pure0 obmD (fun Fz _ => (e_var (K := K) (i := 2) (R := zI) (x := p_high) rfl rfl))))))) (y_pure0 obmD (fun Fz _ => e_int)) (fun Fz v2_0 v2_1 y2_0 y2_1 G2 O2 eO2 r2_0 r2_1 => (e_eq srI (e_cv r2_0) (e_cv r2_1))) (fun _ _ hC => hC)) hs h_p_diagrams hx_fn hm fun x d v G2 O2 H2 e2 hs2 ob2 hr2 hq => QX.ret hq hs2 ob2 hr2

theorem ok_beyond_case {P : Program} {w : World} {K : PySem.W.Frag} {mg : Str → Option Value} {base : Heap} {cl : Nat → Addr} {fa : Addr} {fd : FuncData} (F : Fun K "beyond_case" "beyond_case" s_beyond_case fa fd) (T : Txt K mg cl) {C : Addr} (TD : DFacts K C) (C_check_node : Cal P w K mg base "check_node" 16 ["diagrams", "number"] (spX K cl (ObD K C) (fun v0 => (rsV v0 (rs1 zI))) rN (fun s a => x_check_node s a))) (C_check_place : Cal P w K mg base "check_place" 1 ["items", "place"] (spP K cl (rsC rSq (rs1 zI)) rN (fun a => m_check_place (a.1) (a.2)))) (C_product_function : Cal P w K mg base "product_function" 17 ["diagrams", "product"] (spX K cl (ObD K C) (fun v0 => (rsV v0 (rs1 (rT zI)))) zI (fun s a => x_product_function s a))) (C_with_mark : Cal P w K mg base "with_mark" 1 ["product", "place", "mark"] (spP K cl (rsC (rT zI) (rsC zI (rs1 zI))) (rT zI) (fun a => m_with_mark (a.1) (a.2.1) (a.2.2)))) (C_D_first_case : MCal P w K mg base C "first_case" 2 ["self", "f"] (spP K cl (rsC (rDn C) (rs1 zI)) (rO zI) (fun a => m_D_first_case (a.1) (a.2)))) (C_without : Cal P w K mg base "without" 16 ["diagrams", "f", "g"] (spX K cl (ObD K C) (fun v0 => (rsV v0 (rsC zI (rs1 zI)))) zI (fun s a => x_without s (a.1) (a.2)))) :
    FnOk P w K mg base (L2.CX P w) 18 fa fd ["diagrams", "product", "place", "high"] (spX K cl (ObD K C) (fun v0 => (rsV v0 (rsC (rT zI) (rsC zI (rs1 zI))))) (rO zI) (fun s a => x_beyond_case s (a.1) (a.2.1) (a.2.2))) := by
  refine F.okX sc_beyond_case (fun vs H Q E h => ?_) (fun cdv A outer s H vs Q E hr h => ?_)
  · obtain ⟨F1, G, O, d, v0, a, _, _, hS, _⟩ := h
    exact (lnV (lnC (lnC ln1))) _ _ _ _ hS
  · obtain ⟨F1, G, O_p_diagrams, p_diagrams, v_p_diagrams, ⟨p_product, p_place, p_high⟩, hs, h_p_diagrams, hS, hm⟩ := h
    obtain ⟨_, rfl, ⟨v_p_product, _, rfl, h_p_product, ⟨v_p_place, _, rfl, h_p_place, ⟨v_p_high, rfl, h_p_high⟩⟩⟩⟩ := hS
    cases (show v_p_place = V.int p_place from h_p_place)
    cases (show v_p_high = V.int p_high from h_p_high)
    have tk : Takes (cxOf (L2.CX P w) P w K mg base N_beyond_case "beyond_case" (defScope s_beyond_case) fa cdv A outer s H E) (fun cls d _ H => E cls d H) := takes_of rfl rfl rfl rfl
    refine ⟨_, (pss_cons (ps_expr (pe_call (E := E) C_check_node.ok (hr.mono (by decide)) rfl C_check_node.mgx C_check_node.kp C_check_node.bd .nil (passes_call tk (fun _ _ _ _ h => h)) (pa_cons (pv 0) (pa_cons (pv 3) pa_nil))))
     (pss_cons (ps_expr (pe_call (E := E) C_check_place.ok (hr.mono (by decide)) rfl C_check_place.mgx C_check_place.kp C_check_place.bd .nil (passes_call tk (fun _ _ _ _ h => h)) (pa_cons (pv 1) (pa_cons (pv 2) pa_nil))))
     (pss_cons (ps_asg (pe_call (E := E) C_product_function.ok (hr.mono (by decide)) rfl C_product_function.mgx C_product_function.kp C_product_function.bd .nil (passes_call tk (fun _ _ _ _ h => h)) (pa_cons (pv 0) (pa_cons (pe_call (E := E) C_with_mark.ok (hr.mono (by decide)) rfl C_with_mark.mgx C_with_mark.kp C_with_mark.bd .nil (passes_call tk (fun _ _ _ _ h => h)) (pa_cons (pv 1) (pa_cons (pv 2) (pa_cons (pe_glob (v := .int (2)) rfl T.c_FREE.choose_spec ⟨_, rfl⟩) pa_nil)))) pa_nil))) (pg_name (i := 4) sc_beyond_case.nd rfl (by first | exact Or.inl rfl | exact Or.inr rfl)))
     (pss_cons (ps_ret (pe_meth (E := E) (pv 0) TD.cl C_D_first_case.me C_D_first_case.ok (hr.mono (by decide)) C_D_first_case.bd .nil (passes_call tk (fun _ _ _ _ h => h)) (pa_cons (pe_call (E := E) C_without.ok (hr.mono (by decide)) rfl C_without.mgx C_without.kp C_without.bd .nil (passes_call tk (fun _ _ _ _ h => h)) (pa_cons (pv 0) (pa_cons (pv 4) (pa_cons (pv 3) pa_nil)))) pa_nil)))
     pss_nil)))), ?_⟩
    have hs := Hs.wrap hs
    have hm : Wp (x_beyond_case p_diagrams p_product p_place p_high) (QX K ⟨F1, G, E, cl⟩ (ObD K C) v_p_diagrams (rO zI) Q) _ := QX.start hm
    try dsimp only at hm
    unfold x_beyond_case at hm
    refine (show (_ : TS) _ ([some v_p_diagrams, some v_p_product, some (.int p_place), some (.int p_high), none] : L2.St) _ from ?_)
    refine w_dropY (K := K) (La := []) (Lb := []) (O := O_p_diagrams) (y_call (fm := ⟨F1, G, E, cl⟩) (S := fun v0 => (rsV v0 (rs1 zI))) (h := fun s a => x_check_node s a) (yA_obj rfl (yA_one (y_pure0 obmD (fun Fz _ => (e_var (K := K) (i := 3) (R := zI) (x := p_high) rfl rfl)))))) hs h_p_diagrams hx_fn hm (fun _ p_diagrams G1 O_p_diagrams H1 e1 hs hd1 hm => ?_)
    try dsimp only at hm
    have h_p_product := (((rT zI)).mono e1 h_p_product)
    have h_p_diagrams := hd1
    refine w_dropY (K := K) (La := []) (Lb := []) (O := O_p_diagrams) (y_pure0 obmD (fun Fz _ => (e_call (fm := ⟨Fz, G, E, cl⟩) (a_cons (e_seqlen sq_T (e_var (K := K) (i := 1) (R := (rT zI)) (x := p_product) rfl h_p_product)) (a_one (e_var (K := K) (i := 2) (R := zI) (x := p_place) rfl rfl)))))) hs h_p_diagrams hx_fn hm (fun _ p_diagrams G2 O_p_diagrams H2 e2 hs hd2 hm => ?_)
    try dsimp only at hm
    have h_p_product := (((rT zI)).mono e2 h_p_product)
    have h_p_diagrams := hd2
    refine w_asgY (K := K) (La := []) (Lb := []) (O := O_p_diagrams) (tg_name (i := 4) (R := zI)) (y_call (fm := ⟨F1, G, E, cl⟩) (S := fun v0 => (rsV v0 (rs1 (rT zI)))) (h := fun s a => x_product_function s a) (yA_obj rfl (yA_one (y_pure0 obmD (fun Fz _ => (e_call (fm := ⟨Fz, G, E, cl⟩) (a_cons (e_var (K := K) (i := 1) (R := (rT zI)) (x := p_product) rfl h_p_product) (a_cons (e_var (K := K) (i := 2) (R := zI) (x := p_place) rfl rfl) (a_one e_int))))))))) hs h_p_diagrams hx_fn hm (fun p_larger p_diagrams vv3 G3 O_p_diagrams H3 e3 hs hd3 hv3 hm => ?_)
    try dsimp only at hm
    obtain ⟨v_p_larger, rfl, h_p_larger⟩ := hv3
    cases (show v_p_larger = V.int p_larger from h_p_larger)
    have h_p_product := (((rT zI)).mono e3 h_p_product)
    have h_p_diagrams := hd3
    refine (show (_ : TS) _ ([some v_p_diagrams, some v_p_product, some (.int p_place), some (.int p_high), some (.int p_larger)] : L2.St) _ from ?_)
    exact w_retY (K := K) (La := []) (Lb := []) (O := O_p_diagrams) (kr := fun r d => (Xr.ok r, d)) (y_methR (mt := "first_case") (fm := ⟨F1, G, E, cl⟩) (Sg := (rs1 zI)) (h := fun a => m_D_first_case (a.1) (a.2)) obmD (objD (by exact fun _ _ _ _ => rfl)) lendsD (sc_O sc_I) rfl (yA_one (y_call (fm := ⟨F1, G, E, cl⟩) (S := fun v0 => (rsV v0 (rsC zI (rs1 zI)))) (h := fun s a => x_without s (a.1) (a.2)) (yA_obj rfl (yA_cons (y_pure0 obmD (fun Fz _ => (e_var (K := K) (i := 4) (R := zI) (x := p_larger) rfl rfl))) (yA_one (y_pure0 obmD (fun Fz _ => (e_var (K := K) (i := 3) (R := zI) (x := p_high) rfl rfl))))))))) hs h_p_diagrams hx_fn hm fun x d v G2 O2 H2 e2 hs2 ob2 hr2 hq => QX.ret hq hs2 ob2 hr2

theorem ok_is_prime {P : Program} {w : World} {K : PySem.W.Frag} {mg : Str → Option Value} {base : Heap} {cl : Nat → Addr} {fa : Addr} {fd : FuncData} (F : Fun K "is_prime" "is_prime" s_is_prime fa fd) (T : Txt K mg cl) {C : Addr} (TD : DFacts K C) (C_lies_within : Cal P w K mg base "lies_within" 18 ["diagrams", "product", "high"] (spX K cl (ObD K C) (fun v0 => (rsV v0 (rsC (rT zI) (rs1 zI)))) rB (fun s a => x_lies_within s (a.1) (a.2)))) (C_beyond_case : Cal P w K mg base "beyond_case" 18 ["diagrams", "product", "place", "high"] (spX K cl (ObD K C) (fun v0 => (rsV v0 (rsC (rT zI) (rsC zI (rs1 zI))))) (rO zI) (fun s a => x_beyond_case s (a.1) (a.2.1) (a.2.2)))) :
    FnOk P w K mg base (L2.CX P w) 19 fa fd ["diagrams", "product", "high"] (spX K cl (ObD K C) (fun v0 => (rsV v0 (rsC (rT zI) (rs1 zI)))) rB (fun s a => x_is_prime s (a.1) (a.2))) := by
  refine F.okX sc_is_prime (fun vs H Q E h => ?_) (fun cdv A outer s H vs Q E hr h => ?_)
  · obtain ⟨F1, G, O, d, v0, a, _, _, hS, _⟩ := h
    exact (lnV (lnC ln1)) _ _ _ _ hS
  · obtain ⟨F1, G, O_p_diagrams, p_diagrams, v_p_diagrams, ⟨p_product, p_high⟩, hs, h_p_diagrams, hS, hm⟩ := h
    obtain ⟨_, rfl, ⟨v_p_product, _, rfl, h_p_product, ⟨v_p_high, rfl, h_p_high⟩⟩⟩ := hS
    cases (show v_p_high = V.int p_high from h_p_high)
    have tk : Takes (cxOf (L2.CX P w) P w K mg base N_is_prime "is_prime" (defScope s_is_prime) fa cdv A outer s H E) (fun cls d _ H => E cls d H) := takes_of rfl rfl rfl rfl
    refine ⟨_, (pss_cons (ps_if (pt_not (pt_val (pe_call (E := E) C_lies_within.ok (hr.mono (by decide)) rfl C_lies_within.mgx C_lies_within.kp C_lies_within.bd .nil (passes_call tk (fun _ _ _ _ h => h)) (pa_cons (pv 0) (pa_cons (pv 1) (pa_cons (pv 2) pa_nil)))))) (pss_cons (ps_ret pe_bl)
     pss_nil) pss_nil)
     (pss_cons (ps_setLc (i := 3) (own := [("place", 4), ("mark", 5)]) rfl sc_is_prime.nd rfl rfl (sw_true rfl rfl rfl (by decide +kernel)) (pi_enumT (by rfl) T.n_enumerate (pa_cons (pv 1) pa_nil)) (blkOk_by (own := [("place", 4), ("mark", 5)]) (N := N_is_prime) (sc := defScope s_is_prime) (by decide +kernel)) (fun _ _ _ _ _ => (show PG _ _ (gTup K 2 _) from pg_tup rfl (pgs_cons (pg_name (i := 4) sc_is_prime.nd rfl (by first | exact Or.inl rfl | exact Or.inr rfl)) (pgs_cons (pg_name (i := 5) sc_is_prime.nd rfl (by first | exact Or.inl rfl | exact Or.inr rfl)) pgs_nil)))) (fun _ _ _ _ _ => (pts_one (pt_cmpR op_ne (pv 5) (pe_glob (v := .int (2)) rfl T.c_FREE.choose_spec ⟨_, rfl⟩) (nomark _)))) (fun _ _ _ _ _ => (pv 4)))
     (pss_cons (ps_ret (pe_callB (r := rAll K) (cr_all rfl) (by rfl) T.n_all b_all (pa_cons (pe_lc (own := [("place", 4)]) rfl sc_is_prime.nd (pi_list (pv 3)) (blkOk_by (own := [("place", 4)]) (N := N_is_prime) (sc := defScope s_is_prime) (by decide +kernel)) (fun _ _ _ _ _ => (pg_name (i := 4) sc_is_prime.nd rfl (by first | exact Or.inl rfl | exact Or.inr rfl))) (fun _ _ _ _ _ => pts_nil) (fun _ _ _ _ _ => (pe_cmpR op_notN (pe_call (E := E0) C_beyond_case.ok (hr.mono (by decide)) rfl C_beyond_case.mgx C_beyond_case.kp C_beyond_case.bd .nil passL (pa_cons (pv 0) (pa_cons (pv 1) (pa_cons (pv 4) (pa_cons (pv 2) pa_nil))))) pe_non (nomark _)))) pa_nil)))
     pss_nil))), ?_⟩
    have hs := Hs.wrap hs
    have hm : Wp (x_is_prime p_diagrams p_product p_high) (QX K ⟨F1, G, E, cl⟩ (ObD K C) v_p_diagrams rB Q) _ := QX.start hm
    try dsimp only at hm
    unfold x_is_prime at hm
    refine (show (_ : TS) _ ([some v_p_diagrams, some v_p_product, some (.int p_high), none, none, none] : L2.St) _ from ?_)
    refine w_ifY (La := []) (Lb := []) (O := O_p_diagrams) (yt_not (yt_val (K := K) (y_call (fm := ⟨F1, G, E, cl⟩) (S := fun v0 => (rsV v0 (rsC (rT zI) (rs1 zI)))) (h := fun s a => x_lies_within s (a.1) (a.2)) (yA_obj rfl (yA_cons (y_pure0 obmD (fun Fz _ => (e_var (K := K) (i := 1) (R := (rT zI)) (x := p_product) rfl h_p_product))) (yA_one (y_pure0 obmD (fun Fz _ => (e_var (K := K) (i := 2) (R := zI) (x := p_high) rfl rfl))))))))) hs h_p_diagrams hx_fn hm (fun p_diagrams G1 O_p_diagrams H1 e1 hs hd1 hm => ?_) (fun p_diagrams G1 O_p_diagrams H1 e1 hs hd1 hm => ?_)
    · have h_p_product := (((rT zI)).mono e1 h_p_product)
      have h_p_diagrams := hd1
      exact w_retY (K := K) (La := []) (Lb := []) (O := O_p_diagrams) (kr := fun r d => (Xr.ok r, d)) (y_pure0 obmD (fun Fz _ => e_bl)) hs h_p_diagrams hx_fn hm fun x d v G2 O2 H2 e2 hs2 ob2 hr2 hq => QX.ret hq hs2 ob2 hr2
    · have h_p_product := (((rT zI)).mono e1 h_p_product)
      have h_p_diagrams := hd1
      refine nx_of ?_
      refine (show (_ : TS) _ ([some v_p_diagrams, some v_p_product, some (.int p_high), none, none, none] : L2.St) _ from ?_)
      refine w_asg (K := K) (tg_name (i := 3) (R := (rK zI))) (EvN.evK (n_lc (S := zI) (i_enumT (e_var (K := K) (i := 1) (R := (rT zI)) (x := p_product) rfl h_p_product)) (fun _ h => nomatch h) (tg_tup2) (by decide) (fun x2 vs2 G2 e2 hv2 => by
       obtain ⟨v2_p_place, _, rfl, h2_p_place, v2_p_mark, rfl, h2_p_mark⟩ := hv2
       exact ⟨(t_test (K := K) (e_ne srI (e_var (K := K) (i := 5) (R := zI) (x := x2.2) rfl h2_p_mark) e_int)), (e_var (K := K) (i := 4) (R := zI) (x := x2.1) rfl h2_p_place)⟩))) hs hm (fun p_places vv3 G3 H3 e3 hs hv3 hm => ?_)
      obtain ⟨v_p_places, rfl, h_p_places⟩ := hv3
      have h_p_diagrams := (obD_mono _ _ _ _ _ e3 h_p_diagrams)
      have h_p_product := (((rT zI)).mono e3 h_p_product)
      refine (show (_ : TS) _ ([some v_p_diagrams, some v_p_product, some (.int p_high), some v_p_places, none, none] : L2.St) _ from ?_)
      exact w_retY (K := K) (La := []) (Lb := []) (O := O_p_diagrams) (kr := fun r d => (Xr.ok r, d)) (y_op1 obmD (y_lc (Se := rB) obmD (fun Fz _ => (i_list (e_KL (e_var (K := K) (i := 3) (R := (rK zI)) (x := p_places) rfl h_p_places)))) (tg_name (i := 4) (R := zI)) (by decide) (fun x4 vs4 G4 Lb4 e4 hv4 => by
       obtain ⟨v4_p_place, rfl, h4_p_place⟩ := hv4
       exact (y_op1 obmD (y_call (fm := ⟨F1, G, E0, cl⟩) (S := fun v0 => (rsV v0 (rsC (rT zI) (rsC zI (rs1 zI))))) (h := fun s a => x_beyond_case s (a.1) (a.2.1) (a.2.2)) (yA_obj rfl (yA_cons (y_pure0 obmD (fun Fz _ => (e_var (K := K) (i := 1) (R := (rT zI)) (x := p_product) rfl (((rT zI)).mono e4 h_p_product)))) (yA_cons (y_pure0 obmD (fun Fz _ => (e_var (K := K) (i := 4) (R := zI) (x := x4) rfl h4_p_place))) (yA_one (y_pure0 obmD (fun Fz _ => (e_var (K := K) (i := 2) (R := zI) (x := p_high) rfl rfl)))))))) (fun Fz v5_0 y5_0 G5 O5 eO5 r5_0 => (e_notN (e_cv r5_0))) (fun _ _ hC => hC)))) (fun Fz v6_0 y6_0 G6 O6 eO6 r6_0 => (e_all (e_KL (e_cv r6_0)))) (fun _ _ hC => hC)) hs h_p_diagrams hx_fn hm fun x d v G2 O2 H2 e2 hs2 ob2 hr2 hq => QX.ret hq hs2 ob2 hr2

theorem ok_own_case {P : Program} {w : World} {K : PySem.W.Frag} {mg : Str → Option Value} {base : Heap} {cl : Nat → Addr} {fa : Addr} {fd : FuncData} (F : Fun K "own_case" "own_case" s_own_case fa fd) (T : Txt K mg cl) {C : Addr} (TD : DFacts K C) (C_check_node : Cal P w K mg base "check_node" 16 ["diagrams", "number"] (spX K cl (ObD K C) (fun v0 => (rsV v0 (rs1 zI))) rN (fun s a => x_check_node s a))) (C_check_place : Cal P w K mg base "check_place" 1 ["items", "place"] (spP K cl (rsC rSq (rs1 zI)) rN (fun a => m_check_place (a.1) (a.2)))) (C_D_both : MCal P w K mg base C "both" 16 ["self", "f", "g"] (spX K cl (ObD K C) (fun v0 => (rsV v0 (rsC zI (rs1 zI)))) zI (fun s a => x_D_both s (a.1) (a.2)))) (C_product_function : Cal P w K mg base "product_function" 17 ["diagrams", "product"] (spX K cl (ObD K C) (fun v0 => (rsV v0 (rs1 (rT zI)))) zI (fun s a => x_product_function s a))) (C_cover_function : Cal P w K mg base "cover_function" 18 ["diagrams", "cover"] (spX K cl (ObD K C) (fun v0 => (rsV v0 (rs1 (rK (rT zI))))) zI (fun s a => x_cover_function s a))) (C_D_first_case : MCal P w K mg base C "first_case" 2 ["self", "f"] (spP K cl (rsC (rDn C) (rs1 zI)) (rO zI) (fun a => m_D_first_case (a.1) (a.2)))) (C_without : Cal P w K mg base "without" 16 ["diagrams", "f", "g"] (spX K cl (ObD K C) (fun v0 => (rsV v0 (rsC zI (rs1 zI)))) zI (fun s a => x_without s (a.1) (a.2)))) :
    FnOk P w K mg base (L2.CX P w) 19 fa fd ["diagrams", "cover", "at", "low"] (spX K cl (ObD K C) (fun v0 => (rsV v0 (rsC (rK (rT zI)) (rsC zI (rs1 zI))))) (rO zI) (fun s a => x_own_case s (a.1) (a.2.1) (a.2.2))) := by
  refine F.okX sc_own_case (fun vs H Q E h => ?_) (fun cdv A outer s H vs Q E hr h => ?_)
  · obtain ⟨F1, G, O, d, v0, a, _, _, hS, _⟩ := h
    exact (lnV (lnC (lnC ln1))) _ _ _ _ hS
  · obtain ⟨F1, G, O_p_diagrams, p_diagrams, v_p_diagrams, ⟨p_cover, p_at, p_low⟩, hs, h_p_diagrams, hS, hm⟩ := h
    obtain ⟨_, rfl, ⟨v_p_cover, _, rfl, h_p_cover, ⟨v_p_at, _, rfl, h_p_at, ⟨v_p_low, rfl, h_p_low⟩⟩⟩⟩ := hS
    cases (show v_p_at = V.int p_at from h_p_at)
    cases (show v_p_low = V.int p_low from h_p_low)
    have tk : Takes (cxOf (L2.CX P w) P w K mg base N_own_case "own_case" (defScope s_own_case) fa cdv A outer s H E) (fun cls d _ H => E cls d H) := takes_of rfl rfl rfl rfl
    refine ⟨_, (pss_cons (ps_expr (pe_call (E := E) C_check_node.ok (hr.mono (by decide)) rfl C_check_node.mgx C_check_node.kp C_check_node.bd .nil (passes_call tk (fun _ _ _ _ h => h)) (pa_cons (pv 0) (pa_cons (pv 3) pa_nil))))
     (pss_cons (ps_expr (pe_call (E := E) C_check_place.ok (hr.mono (by decide)) rfl C_check_place.mgx C_check_place.kp C_check_place.bd .nil (passes_call tk (fun _ _ _ _ h => h)) (pa_cons (pv 1) (pa_cons (pv 2) pa_nil))))
     (pss_cons (ps_asg (pe_meth (E := E) (pv 0) TD.cl C_D_both.me C_D_both.ok (hr.mono (by decide)) C_D_both.bd .nil (passes_call tk (fun _ _ _ _ h => h)) (pa_cons (pe_call (E := E) C_product_function.ok (hr.mono (by decide)) rfl C_product_function.mgx C_product_function.kp C_product_function.bd .nil (passes_call tk (fun _ _ _ _ h => h)) (pa_cons (pv 0) (pa_cons (pe_ix (r := rIxL K) ix_list (pv 1) (pv 2) (fun _ _ => rfl)) pa_nil))) (pa_cons (pv 3) pa_nil))) (pg_name (i := 4) sc_own_case.nd rfl (by first | exact Or.inl rfl | exact Or.inr rfl)))
     (pss_cons (ps_asg (pe_call (E := E) C_cover_function.ok (hr.mono (by decide)) rfl C_cover_function.mgx C_cover_function.kp C_cover_function.bd .nil (passes_call tk (fun _ _ _ _ h => h)) (pa_cons (pv 0) (pa_cons (pe_op op_cat (pe_slice (r := rSlL K) sl_list (pv 1) po_none (po_some (pv 2))) (pe_slice (r := rSlL K) sl_list (pv 1) (po_some (pe_op op_add (pv 2) pe_int)) po_none)) pa_nil))) (pg_name (i := 5) sc_own_case.nd rfl (by first | exact Or.inl rfl | exact Or.inr rfl)))
     (pss_cons (ps_ret (pe_meth (E := E) (pv 0) TD.cl C_D_first_case.me C_D_first_case.ok (hr.mono (by decide)) C_D_first_case.bd .nil (passes_call tk (fun _ _ _ _ h => h)) (pa_cons (pe_call (E := E) C_without.ok (hr.mono (by decide)) rfl C_without.mgx C_without.kp C_without.bd .nil (passes_call tk (fun _ _ _ _ h => h)) (pa_cons (pv 0) (pa_cons (pv 4) (pa_cons (pv 5) pa_nil)))) pa_nil)))
     pss_nil))))), ?_⟩
    have hs := Hs.wrap hs
    have hm : Wp (x_own_case p_diagrams p_cover p_at p_low) (QX K ⟨F1, G, E, cl⟩ (ObD K C) v_p_diagrams (rO zI) Q) _ := QX.start hm
    try dsimp only at hm
    unfold x_own_case at hm
    refine (show (_ : TS) _ ([some v_p_diagrams, some v_p_cover, some (.int p_at), some (.int p_low), none, none] : L2.St) _ from ?_)
    refine w_dropY (K := K) (La := []) (Lb := []) (O := O_p_diagrams) (y_call (fm := ⟨F1, G, E, cl⟩) (S := fun v0 => (rsV v0 (rs1 zI))) (h := fun s a => x_check_node s a) (yA_obj rfl (yA_one (y_pure0 obmD (fun Fz _ => (e_var (K := K) (i := 3) (R := zI) (x := p_low) rfl rfl)))))) hs h_p_diagrams hx_fn hm (fun _ p_diagrams G1 O_p_diagrams H1 e1 hs hd1 hm => ?_)
    try dsimp only at hm
    have h_p_cover := (((rK (rT zI))).mono e1 h_p_cover)
    have h_p_diagrams := hd1
    refine w_dropY (K := K) (La := []) (Lb := []) (O := O_p_diagrams) (y_pure0 obmD (fun Fz _ => (e_call (fm := ⟨Fz, G, E, cl⟩) (a_cons (e_seqlen sq_K (e_var (K := K) (i := 1) (R := (rK (rT zI))) (x := p_cover) rfl h_p_cover)) (a_one (e_var (K := K) (i := 2) (R := zI) (x := p_at) rfl rfl)))))) hs h_p_diagrams hx_fn hm (fun _ p_diagrams G2 O_p_diagrams H2 e2 hs hd2 hm => ?_)
    try dsimp only at hm
    have h_p_cover := (((rK (rT zI))).mono e2 h_p_cover)
    have h_p_diagrams := hd2
    refine w_asgY (K := K) (La := []) (Lb := []) (O := O_p_diagrams) (tg_name (i := 4) (R := zI)) (y_meth (mt := "both") (fm := ⟨F1, G, E, cl⟩) (S := (rsC zI (rs1 zI))) (h := fun s a => x_D_both s (a.1) (a.2)) (objD (by exact fun _ _ _ _ => rfl)) rfl (yA_cons (y_call (fm := ⟨F1, G, E, cl⟩) (S := fun v0 => (rsV v0 (rs1 (rT zI)))) (h := fun s a => x_product_function s a) (yA_obj rfl (yA_one (y_pure0 obmD (fun Fz _ => (e_ixL (e_KL (e_var (K := K) (i := 1) (R := (rK (rT zI))) (x := p_cover) rfl h_p_cover)) (e_var (K := K) (i := 2) (R := zI) (x := p_at) rfl rfl))))))) (yA_one (y_pure0 obmD (fun Fz _ => (e_var (K := K) (i := 3) (R := zI) (x := p_low) rfl rfl)))))) hs h_p_diagrams hx_fn hm (fun p_own p_diagrams vv3 G3 O_p_diagrams H3 e3 hs hd3 hv3 hm => ?_)
    try dsimp only at hm
    obtain ⟨v_p_own, rfl, h_p_own⟩ := hv3
    cases (show v_p_own = V.int p_own from h_p_own)
    have h_p_cover := (((rK (rT zI))).mono e3 h_p_cover)
    have h_p_diagrams := hd3
    refine (show (_ : TS) _ ([some v_p_diagrams, some v_p_cover, some (.int p_at), some (.int p_low), some (.int p_own), none] : L2.St) _ from ?_)
    refine w_asgY (K := K) (La := []) (Lb := []) (O := O_p_diagrams) (tg_name (i := 5) (R := zI)) (y_call (fm := ⟨F1, G, E, cl⟩) (S := fun v0 => (rsV v0 (rs1 (rK (rT zI))))) (h := fun s a => x_cover_function s a) (yA_obj rfl (yA_one (y_pure0 obmD (fun Fz _ => (EvN.evK (n_cat (EvN.evK (n_slice (e_KL (e_var (K := K) (i := 1) (R := (rK (rT zI))) (x := p_cover) rfl h_p_cover)) o_none (o_some (K := K) (e_var (K := K) (i := 2) (R := zI) (x := p_at) rfl rfl)))) (EvN.evK (n_slice (e_KL (e_var (K := K) (i := 1) (R := (rK (rT zI))) (x := p_cover) rfl h_p_cover)) (o_some (K := K) (e_add (e_var (K := K) (i := 2) (R := zI) (x := p_at) rfl rfl) e_int)) o_none))))))))) hs h_p_diagrams hx_fn hm (fun p_others p_diagrams vv4 G4 O_p_diagrams H4 e4 hs hd4 hv4 hm => ?_)
    try dsimp only at hm
    obtain ⟨v_p_others, rfl, h_p_others⟩ := hv4
    cases (show v_p_others = V.int p_others from h_p_others)
    have h_p_cover := (((rK (rT zI))).mono e4 h_p_cover)
    have h_p_diagrams := hd4
    refine (show (_ : TS) _ ([some v_p_diagrams, some v_p_cover, some (.int p_at), some (.int p_low), some (.int p_own), some (.int p_others)] : L2.St) _ from ?_)
    exact w_retY (K := K) (La := []) (Lb := []) (O := O_p_diagrams) (kr := fun r d => (Xr.ok r, d)) (y_methR (mt := "first_case") (fm := ⟨F1, G, E, cl⟩) (Sg := (rs1 zI)) (h := fun a => m_D_first_case (a.1) (a.2)) obmD (objD (by exact fun _ _ _ _ => rfl)) lendsD (sc_O sc_I) rfl (yA_one (y_call (fm := ⟨F1, G, E, cl⟩) (S := fun v0 => (rsV v0 (rsC zI (rs1 zI)))) (h := fun s a => x_without s (a.1) (a.2)) (yA_obj rfl (yA_cons (y_pure0 obmD (fun Fz _ => (e_var (K := K) (i := 4) (R := zI) (x := p_own) rfl rfl))) (yA_one (y_pure0 obmD (fun Fz _ => (e_var (K := K) (i := 5) (R := zI) (x := p_others) rfl rfl))))))))) hs h_p_diagrams hx_fn hm fun x d v G2 O2 H2 e2 hs2 ob2 hr2 hq => QX.ret hq hs2 ob2 hr2

theorem ok_law_far {P : Program} {w : World} {K : PySem.W.Frag} {mg : Str → Option Value} {base : Heap} {cl : Nat → Addr} {fa : Addr} {fd : FuncData} (F : Fun K "_law_far" "_law_far" s_law_far fa fd) (T : Txt K mg cl)  :
    FnOk P w K mg base (L2.CX P w) 1 fa fd ["script", "k"] (spP K cl (rsC (rL zI) (rs1 zI)) zI (fun a => m_law_far (a.1) (a.2))) := by
  refine F.okX sc_law_far (fun vs H Q E h => ?_) (fun cdv A outer s H vs Q E hr h => ?_)
  · obtain ⟨G, a, _, hS, _⟩ := h
    exact (lnC ln1) _ _ _ _ hS
  · obtain ⟨G, ⟨p_script, p_k⟩, hg, hS, hm⟩ := h
    obtain ⟨v_p_script, _, rfl, h_p_script, v_p_k, rfl, h_p_k⟩ := hS
    cases (show v_p_k = V.int p_k from h_p_k)
    refine ⟨_, (pss_cons (ps_if (pt_cmpR op_eq (pe_callB (r := Mw.rLen K) call_len (by rfl) T.n_len b_len (pa_cons (pv 0) pa_nil)) pe_int (nomark _)) (pss_cons (ps_ret (pe_op op_add (pe_op op_mul pe_int (pv 1)) pe_int))
     pss_nil) pss_nil)
     (pss_cons (ps_if (pt_cmpR op_lt (pv 1) (pe_callB (r := Mw.rLen K) call_len (by rfl) T.n_len b_len (pa_cons (pv 0) pa_nil)) (nomark _)) (pss_cons (ps_ret (pe_ix (r := rIxL K) ix_list (pv 0) (pv 1) (fun _ _ => rfl)))
     pss_nil) pss_nil)
     (pss_cons (ps_ret (pe_op op_add (pe_ix (r := rIxL K) ix_list (pv 0) (pe_op op_mod (pe_callTy call_int1 (by rfl) T.n_int b_int (pa_cons (pv 1) pa_nil)) (pe_callB (r := Mw.rLen K) call_len (by rfl) T.n_len b_len (pa_cons (pv 0) pa_nil))) (fun _ _ => rfl)) (pe_op op_mul pe_int (pv 1))))
     pss_nil))), ?_⟩
    have hs : Hs ⟨H, G, E, cl⟩ G [] H := Hs.start hg
    have hm := Wp.ofSp (G0 := G) hm
    try dsimp only at hm
    unfold m_law_far at hm
    refine (show (_ : TS) _ ([some v_p_script, some (.int p_k)] : L2.St) _ from ?_)
    refine w_if (t_test (K := K) (e_eq srI (e_len sq_L (e_var (K := K) (i := 0) (R := (rL zI)) (x := p_script) rfl h_p_script)) e_int)) hs hm (fun G1 H1 e1 hs hm => ?_) (fun G1 H1 e1 hs hm => ?_)
    · have h_p_script := (((rL zI)).mono e1 h_p_script)
      exact w_ret0 (K := K) (e_add (e_mul e_int (e_var (K := K) (i := 1) (R := zI) (x := p_k) rfl rfl)) e_int) hs hm fun r v G2 H2 hs2 hr2 hq => hq v G2 H2 hs2.fin hr2
    · have h_p_script := (((rL zI)).mono e1 h_p_script)
      refine nx_of ?_
      refine (show (_ : TS) _ ([some v_p_script, some (.int p_k)] : L2.St) _ from ?_)
      refine w_if (t_test (K := K) (e_cmp (p := fun i j => decide (i < j)) (e_var (K := K) (i := 1) (R := zI) (x := p_k) rfl rfl) (e_len sq_L (e_var (K := K) (i := 0) (R := (rL zI)) (x := p_script) rfl h_p_script)))) hs hm (fun G2 H2 e2 hs hm => ?_) (fun G2 H2 e2 hs hm => ?_)
      · have h_p_script := (((rL zI)).mono e2 h_p_script)
        exact w_ret0 (K := K) (e_ixL (e_var (K := K) (i := 0) (R := (rL zI)) (x := p_script) rfl h_p_script) (e_var (K := K) (i := 1) (R := zI) (x := p_k) rfl rfl)) hs hm fun r v G2 H2 hs2 hr2 hq => hq v G2 H2 hs2.fin hr2
      · have h_p_script := (((rL zI)).mono e2 h_p_script)
        refine nx_of ?_
        refine (show (_ : TS) _ ([some v_p_script, some (.int p_k)] : L2.St) _ from ?_)
        exact w_ret0 (K := K) (e_add (e_ixL (e_var (K := K) (i := 0) (R := (rL zI)) (x := p_script) rfl h_p_script) (e_mod (e_intI (e_var (K := K) (i := 1) (R := zI) (x := p_k) rfl rfl)) (e_len sq_L (e_var (K := K) (i := 0) (R := (rL zI)) (x := p_script) rfl h_p_script)))) (e_mul e_int (e_var (K := K) (i := 1) (R := zI) (x := p_k) rfl rfl))) hs hm fun r v G2 H2 hs2 hr2 hq => hq v G2 H2 hs2.fin hr2

theorem ok_law_parts {P : Program} {w : World} {K : PySem.W.Frag} {mg : Str → Option Value} {base : Heap} {cl : Nat → Addr} {fa : Addr} {fd : FuncData} (F : Fun K "_law_parts" "_law_parts" s_law_parts fa fd) (T : Txt K mg cl)  :
    FnOk P w K mg base (L2.CX P w) 1 fa fd ["cell", "sizes"] (spP K cl (rsC zI (rs1 (rK zI))) (rK zI) (fun a => m_law_parts (a.1) (a.2))) := by
  refine F.okX sc_law_parts (fun vs H Q E h => ?_) (fun cdv A outer s H vs Q E hr h => ?_)
  · obtain ⟨G, a, _, hS, _⟩ := h
    exact (lnC ln1) _ _ _ _ hS
  · obtain ⟨G, ⟨p_cell, p_sizes⟩, hg, hS, hm⟩ := h
    obtain ⟨v_p_cell, _, rfl, h_p_cell, v_p_sizes, rfl, h_p_sizes⟩ := hS
    cases (show v_p_cell = V.int p_cell from h_p_cell)
    refine ⟨_, (pss_cons (ps_set (i := 2) sc_law_parts.nd rfl (by first | exact Or.inl rfl | exact Or.inr rfl) (pe_lst pa_nil))
     (pss_cons (ps_set (i := 3) sc_law_parts.nd rfl (by first | exact Or.inl rfl | exact Or.inr rfl) (pe_op op_sub (pv 0) (pe_op op_pow pe_int pe_int)))
     (pss_cons (ps_for (passes_of rfl) rfl (pi_range1 rfl T.n_range (pa_cons (pe_callB (r := Mw.rLen K) call_len (by rfl) T.n_len b_len (pa_cons (pv 1) pa_nil)) pa_nil)) (pg_name (i := 4) sc_law_parts.nd rfl (by first | exact Or.inl rfl | exact Or.inr rfl)) (pss_cons (ps_if (pt_cmpR op_ge (pv 3) pe_int (nomark _)) (pss_cons (ps_expr (pe_bm PySem.F.plainAttrs_list PySem.F.slot_list_append PySem.F.type_list_append mt_append (pv 2) (pa_cons (pe_op op_mod (pe_callTy call_int1 (by rfl) T.n_int b_int (pa_cons (pv 3) pa_nil)) (pe_ix (r := rIxL K) ix_list (pv 1) (pv 4) (fun _ _ => rfl))) pa_nil)))
     (pss_cons (ps_set (i := 3) sc_law_parts.nd rfl (by first | exact Or.inl rfl | exact Or.inr rfl) (pe_op op_fdiv (pv 3) (pe_ix (r := rIxL K) ix_list (pv 1) (pv 4) (fun _ _ => rfl))))
     pss_nil)) (pss_cons (ps_set (i := 5) sc_law_parts.nd rfl (by first | exact Or.inl rfl | exact Or.inr rfl) (pe_op op_mod (pe_callTy call_int1 (by rfl) T.n_int b_int (pa_cons (pe_op op_add (pe_op op_add (pe_op op_mul (pv 0) pe_int) (pe_op op_mul (pv 4) pe_int)) pe_int) pa_nil)) pe_int))
     (pss_cons (ps_set (i := 5) sc_law_parts.nd rfl (by first | exact Or.inl rfl | exact Or.inr rfl) (pe_op op_mod (pe_callTy call_int1 (by rfl) T.n_int b_int (pa_cons (pe_op op_add (pe_op op_add (pe_op op_mul (pv 5) (pv 5)) (pe_op op_mul pe_int (pv 4))) pe_int) pa_nil)) pe_int))
     (pss_cons (ps_expr (pe_bm PySem.F.plainAttrs_list PySem.F.slot_list_append PySem.F.type_list_append mt_append (pv 2) (pa_cons (pe_op op_mod (pe_callTy call_int1 (by rfl) T.n_int b_int (pa_cons (pv 5) pa_nil)) (pe_ix (r := rIxL K) ix_list (pv 1) (pv 4) (fun _ _ => rfl))) pa_nil)))
     pss_nil))))
     pss_nil))
     (pss_cons (ps_ret (pv 2))
     pss_nil)))), ?_⟩
    have hs : Hs ⟨H, G, E, cl⟩ G [] H := Hs.start hg
    have hm := Wp.ofSp (G0 := G) hm
    try dsimp only at hm
    unfold m_law_parts at hm
    refine (show (_ : TS) _ ([some (.int p_cell), some v_p_sizes, none, none, none, none] : L2.St) _ from ?_)
    refine w_asgN (K := K) (R := zI) (i := 2) (e_lst l_nil (by decide)) hs hm (fun p_parts l_p_parts vs_p_parts G1 H1 e1 hs h1 hm => ?_)
    have h_p_sizes := (((rK zI)).mono e1 h_p_sizes)
    have h_p_parts := h1
    refine (show (_ : TS) _ ([some (.int p_cell), some v_p_sizes, some (.ref l_p_parts), none, none, none] : L2.St) _ from ?_)
    refine w_asg (K := K) (tg_name (i := 3) (R := zI)) (e_sub (e_var (K := K) (i := 0) (R := zI) (x := p_cell) rfl rfl) (e_pow e_int e_int)) hs hm (fun p_rest vv2 G2 H2 e2 hs hv2 hm => ?_)
    obtain ⟨v_p_rest, rfl, h_p_rest⟩ := hv2
    cases (show v_p_rest = V.int p_rest from h_p_rest)
    have h_p_sizes := (((rK zI)).mono e2 h_p_sizes)
    have h_p_parts := RLs.mono e2 h_p_parts
    refine (show (_ : TS) _ ([some (.int p_cell), some v_p_sizes, some (.ref l_p_parts), some (.int p_rest), none, none] : L2.St) _ from ?_)
    refine w_forM (K := K) (fun (s : (List Int) × Int) (σ : L2.St) (G : Hp) (O : Own) => match s with | (p_parts, p_rest) => ∃ (l_p_parts : Addr) (vs_p_parts : List V) (d_4 : Option V) (d_5 : Option V), σ = [some (.int p_cell), some v_p_sizes, some (.ref l_p_parts), some (.int p_rest), d_4, d_5] ∧ O = [(l_p_parts, .lst vs_p_parts)] ∧ RLs zI K G vs_p_parts p_parts) (i_rng1 (e_len sq_K (e_var (K := K) (i := 1) (R := (rK zI)) (x := p_sizes) rfl h_p_sizes))) (fun _ _ _ _ _ _ h => nomatch h) (tg_name (i := 4) (R := zI)) hs hm ⟨l_p_parts, vs_p_parts, none, none, rfl, rfl, h_p_parts⟩ (fun p_k s_ σ_ G1_3 G3 O_ H3 vv3 D3 Qb3 e3 w_ e13 hs hv3 E3 hm => ?_) (fun s_ σ_ G1_3 G3 O_ H3 e3 w_ e13 hs hm => ?_)
    · obtain ⟨p_parts, p_rest⟩ := s_
      obtain ⟨l_p_parts, vs_p_parts, d_4, d_5, rfl, rfl, h_p_parts⟩ := w_
      have h_p_sizes := (((rK zI)).mono e3 h_p_sizes)
      have h_p_parts := RLs.mono e13 h_p_parts
      obtain ⟨v_p_k, rfl, h_p_k⟩ := hv3
      cases (show v_p_k = V.int p_k from h_p_k)
      have b3 := Same.refl G3
      refine (show (_ : TS) _ ([some (.int p_cell), some v_p_sizes, some (.ref l_p_parts), some (.int p_rest), some (.int p_k), d_5] : L2.St) _ from ?_)
      unfold m_law_parts_b11 at hm
      try dsimp only at hm
      refine w_if (t_test (K := K) (e_cmp (p := fun i j => decide (j ≤ i)) (e_var (K := K) (i := 3) (R := zI) (x := p_rest) rfl rfl) e_int)) hs hm (fun G4 H4 e4 hs hm => ?_) (fun G4 H4 e4 hs hm => ?_)
      · have h_p_sizes := (((rK zI)).mono e4 h_p_sizes)
        have h_p_parts := RLs.mono e4 h_p_parts
        have b3 := Same.trans b3 e4
        refine w_app (K := K) (i := 2) 0 (xs := p_parts) rfl rfl h_p_parts (e_mod (e_intI (e_var (K := K) (i := 3) (R := zI) (x := p_rest) rfl rfl)) (e_ixL (e_KL (e_var (K := K) (i := 1) (R := (rK zI)) (x := p_sizes) rfl h_p_sizes)) (e_var (K := K) (i := 4) (R := zI) (x := p_k) rfl rfl))) hs hm (fun y5 w5 G5 H5 e5 hs h5 hm => ?_)
        have h_p_sizes := (((rK zI)).mono e5 h_p_sizes)
        have b3 := Same.trans b3 e5
        have h_p_parts := h5
        generalize p_parts ++ [y5] = p_parts at hm h_p_parts
        generalize vs_p_parts ++ [w5] = vs_p_parts at hs h_p_parts
        refine w_asg (K := K) (tg_name (i := 3) (R := zI)) (e_fdiv (e_var (K := K) (i := 3) (R := zI) (x := p_rest) rfl rfl) (e_ixL (e_KL (e_var (K := K) (i := 1) (R := (rK zI)) (x := p_sizes) rfl h_p_sizes)) (e_var (K := K) (i := 4) (R := zI) (x := p_k) rfl rfl))) hs hm (fun p_rest vv6 G6 H6 e6 hs hv6 hm => ?_)
        obtain ⟨v_p_rest, rfl, h_p_rest⟩ := hv6
        cases (show v_p_rest = V.int p_rest from h_p_rest)
        have h_p_sizes := (((rK zI)).mono e6 h_p_sizes)
        have h_p_parts := RLs.mono e6 h_p_parts
        have b3 := Same.trans b3 e6
        refine (show (_ : TS) _ ([some (.int p_cell), some v_p_sizes, some (.ref l_p_parts), some (.int p_rest), some (.int p_k), d_5] : L2.St) _ from ?_)
        refine nx_of ?_
        refine (show (_ : TS) _ ([some (.int p_cell), some v_p_sizes, some (.ref l_p_parts), some (.int p_rest), some (.int p_k), d_5] : L2.St) _ from ?_)
        exact E3.nx (p_parts, p_rest) _ _ _ _ _ b3 ⟨l_p_parts, vs_p_parts, some (.int p_k), d_5, rfl, rfl, h_p_parts⟩ (Same.refl _) hs hm.out
      · have h_p_sizes := (((rK zI)).mono e4 h_p_sizes)
        have h_p_parts := RLs.mono e4 h_p_parts
        have b3 := Same.trans b3 e4
        refine w_asg (K := K) (tg_name (i := 5) (R := zI)) (e_mod (e_intI (e_add (e_add (e_mul (e_var (K := K) (i := 0) (R := zI) (x := p_cell) rfl rfl) e_int) (e_mul (e_var (K := K) (i := 4) (R := zI) (x := p_k) rfl rfl) e_int)) e_int)) e_int) hs hm (fun p_mixed vv7 G7 H7 e7 hs hv7 hm => ?_)
        obtain ⟨v_p_mixed, rfl, h_p_mixed⟩ := hv7
        cases (show v_p_mixed = V.int p_mixed from h_p_mixed)
        have h_p_sizes := (((rK zI)).mono e7 h_p_sizes)
        have h_p_parts := RLs.mono e7 h_p_parts
        have b3 := Same.trans b3 e7
        refine (show (_ : TS) _ ([some (.int p_cell), some v_p_sizes, some (.ref l_p_parts), some (.int p_rest), some (.int p_k), some (.int p_mixed)] : L2.St) _ from ?_)
        refine w_asg (K := K) (tg_name (i := 5) (R := zI)) (e_mod (e_intI (e_add (e_add (e_mul (e_var (K := K) (i := 5) (R := zI) (x := p_mixed) rfl rfl) (e_var (K := K) (i := 5) (R := zI) (x := p_mixed) rfl rfl)) (e_mul e_int (e_var (K := K) (i := 4) (R := zI) (x := p_k) rfl rfl))) e_int)) e_int) hs hm (fun p_mixed vv8 G8 H8 e8 hs hv8 hm => ?_)
        obtain ⟨v_p_mixed, rfl, h_p_mixed⟩ := hv8
        cases (show v_p_mixed = V.int p_mixed from h_p_mixed)
        have h_p_sizes := (((rK zI)).mono e8 h_p_sizes)
        have h_p_parts := RLs.mono e8 h_p_parts
        have b3 := Same.trans b3 e8
        refine (show (_ : TS) _ ([some (.int p_cell), some v_p_sizes, some (.ref l_p_parts), some (.int p_rest), some (.int p_k), some (.int p_mixed)] : L2.St) _ from ?_)
        refine w_app (K := K) (i := 2) 0 (xs := p_parts) rfl rfl h_p_parts (e_mod (e_intI (e_var (K := K) (i := 5) (R := zI) (x := p_mixed) rfl rfl)) (e_ixL (e_KL (e_var (K := K) (i := 1) (R := (rK zI)) (x := p_sizes) rfl h_p_sizes)) (e_var (K := K) (i := 4) (R := zI) (x := p_k) rfl rfl))) hs hm (fun y9 w9 G9 H9 e9 hs h9 hm => ?_)
        have h_p_sizes := (((rK zI)).mono e9 h_p_sizes)
        have b3 := Same.trans b3 e9
        have h_p_parts := h9
        generalize p_parts ++ [y9] = p_parts at hm h_p_parts
        generalize vs_p_parts ++ [w9] = vs_p_parts at hs h_p_parts
        refine nx_of ?_
        refine (show (_ : TS) _ ([some (.int p_cell), some v_p_sizes, some (.ref l_p_parts), some (.int p_rest), some (.int p_k), some (.int p_mixed)] : L2.St) _ from ?_)
        exact E3.nx (p_parts, p_rest) _ _ _ _ _ b3 ⟨l_p_parts, vs_p_parts, some (.int p_k), some (.int p_mixed), rfl, rfl, h_p_parts⟩ (Same.refl _) hs hm.out
    · obtain ⟨p_parts, p_rest⟩ := s_
      obtain ⟨l_p_parts, vs_p_parts, d_4, d_5, rfl, rfl, h_p_parts⟩ := w_
      have h_p_sizes := (((rK zI)).mono e3 h_p_sizes)
      have h_p_parts := RLs.mono e13 h_p_parts
      refine (show (_ : TS) _ ([some (.int p_cell), some v_p_sizes, some (.ref l_p_parts), some (.int p_rest), d_4, d_5] : L2.St) _ from ?_)
      try dsimp only at hm
      have ng10 := (hs.at 0 rfl).2.1
      have eg10 := same_new (o := HO.lst vs_p_parts) ng10
      have hs := hs.give 0 rfl
      have h_p_parts : (rK zI).r K _ (.ref l_p_parts) p_parts := ⟨l_p_parts, vs_p_parts, rfl, upd_same, RLs.mono eg10 h_p_parts⟩
      have h_p_sizes := (((rK zI)).mono eg10 h_p_sizes)
      exact w_ret0 (K := K) (e_var (K := K) (i := 2) (R := (rK zI)) (x := p_parts) rfl h_p_parts) hs hm fun r v G2 H2 hs2 hr2 hq => hq v G2 H2 hs2.fin hr2

theorem ok_law_is_integer {P : Program} {w : World} {K : PySem.W.Frag} {mg : Str → Option Value} {base : Heap} {cl : Nat → Addr} {fa : Addr} {fd : FuncData} (F : Fun K "_law_is_integer" "_law_is_integer" s_law_is_integer fa fd) (T : Txt K mg cl)  :
    FnOk P w K mg base (L2.CX P w) 1 fa fd ["actual"] (spP K cl (rs1 (rO zI)) rB (fun a => m_law_is_integer a)) := by
  refine F.okX sc_law_is_integer (fun vs H Q E h => ?_) (fun cdv A outer s H vs Q E hr h => ?_)
  · obtain ⟨G, a, _, hS, _⟩ := h
    exact ln1 _ _ _ _ hS
  · obtain ⟨G, p_actual, hg, hS, hm⟩ := h
    obtain ⟨v_p_actual, rfl, h_p_actual⟩ := hS
    refine ⟨_, (pss_cons (ps_ret (pe_and (pe_callB (r := rIsi K) call_isi (by rfl) T.n_isinstance b_isinstance (pa_cons (pv 0) (pa_cons (pe_bltn (v := .ty "int") (by rfl) T.n_int b_int rfl) pa_nil))) (pe_one (pe_not (pe_callB (r := rIsi K) call_isi (by rfl) T.n_isinstance b_isinstance (pa_cons (pv 0) (pa_cons (pe_bltn (v := .ty "bool") (by rfl) T.n_bool b_bool rfl) pa_nil)))))))
     pss_nil), ?_⟩
    have hs : Hs ⟨H, G, E, cl⟩ G [] H := Hs.start hg
    have hm := Wp.ofSp (G0 := G) hm
    try dsimp only at hm
    unfold m_law_is_integer at hm
    refine (show (_ : TS) _ ([some v_p_actual] : L2.St) _ from ?_)
    exact w_ret0 (K := K) (e_and (e_isi (g := fun o => o.isSome) ty_OI isi_OI_int (e_var (K := K) (i := 0) (R := (rO zI)) (x := p_actual) rfl h_p_actual)) (e_not (e_isi (g := fun _ => false) ty_OI isi_OI_bool (e_var (K := K) (i := 0) (R := (rO zI)) (x := p_actual) rfl h_p_actual)))) hs hm fun r v G2 H2 hs2 hr2 hq => hq v G2 H2 hs2.fin hr2

theorem ok_law_bits {P : Program} {w : World} {K : PySem.W.Frag} {mg : Str → Option Value} {base : Heap} {cl : Nat → Addr} {fa : Addr} {fd : FuncData} (F : Fun K "_law_bits" "_law_bits" s_law_bits fa fd) (T : Txt K mg cl)  :
    FnOk P w K mg base (L2.CX P w) 1 fa fd ["number", "count"] (spPF K cl (rsC zI (rs1 zI)) (fun H => (rF H zI)) (fun a => m_law_bits (a.1) (a.2))) := by
  refine F.okX sc_law_bits (fun vs H Q E h => ?_) (fun cdv A outer s H vs Q E hr h => ?_)
  · obtain ⟨G, a, _, hS, _⟩ := h
    exact (lnC ln1) _ _ _ _ hS
  · obtain ⟨G, ⟨p_number, p_count⟩, hg, hS, hm⟩ := h
    obtain ⟨v_p_number, _, rfl, h_p_number, v_p_count, rfl, h_p_count⟩ := hS
    cases (show v_p_number = V.int p_number from h_p_number)
    cases (show v_p_count = V.int p_count from h_p_count)
    refine ⟨_, (pss_cons (ps_ret (pe_lc (own := [("k", 2)]) rfl sc_law_bits.nd (pi_range1 rfl T.n_range (pa_cons (pv 1) pa_nil)) (blkOk_by (own := [("k", 2)]) (N := N_law_bits) (sc := defScope s_law_bits) (by decide +kernel)) (fun _ _ _ _ _ => (pg_name (i := 2) sc_law_bits.nd rfl (by first | exact Or.inl rfl | exact Or.inr rfl))) (fun _ _ _ _ _ => pts_nil) (fun _ _ _ _ _ => (pe_op op_mod (pe_op op_fdiv (pe_callTy call_int1 (by rfl) T.n_int b_int (pa_cons (pv 0) pa_nil)) (pe_op op_shl pe_int (pv 2))) pe_int))))
     pss_nil), ?_⟩
    have hs : Hs ⟨H, G, E, cl⟩ G [] H := Hs.start hg
    have hm := Wp.ofSp (G0 := G) hm
    try dsimp only at hm
    unfold m_law_bits at hm
    refine (show (_ : TS) _ ([some (.int p_number), some (.int p_count), none] : L2.St) _ from ?_)
    exact w_ret0 (K := K) (EvN.evF (fm := ⟨H, G, E, cl⟩) (n_lc (S := zI) (i_rng1 (e_var (K := K) (i := 1) (R := zI) (x := p_count) rfl rfl)) (fun _ h => nomatch h) (tg_name (i := 2) (R := zI)) (by decide) (fun x1 vs1 G1 e1 hv1 => by
     obtain ⟨v1_p_k, rfl, h1_p_k⟩ := hv1
     exact ⟨t_yes, (e_mod (e_fdiv (e_intI (e_var (K := K) (i := 0) (R := zI) (x := p_number) rfl rfl)) (e_shl e_int (e_var (K := K) (i := 2) (R := zI) (x := x1) rfl h1_p_k))) e_int)⟩))) hs hm fun r v G2 H2 hs2 hr2 hq => hq v G2 H2 hs2.fin hr2

theorem ok_law_takes {P : Program} {w : World} {K : PySem.W.Frag} {mg : Str → Option Value} {base : Heap} {cl : Nat → Addr} {fa : Addr} {fd : FuncData} (F : Fun K "_law_takes" "_law_takes" s_law_takes fa fd) (T : Txt K mg cl)  :
    FnOk P w K mg base (L2.CX P w) 1 fa fd ["product", "bits"] (spP K cl (rsC (rT zI) (rs1 (rK zI))) rB (fun a => m_law_takes (a.1) (a.2))) := by
  refine F.okX sc_law_takes (fun vs H Q E h => ?_) (fun cdv A outer s H vs Q E hr h => ?_)
  · obtain ⟨G, a, _, hS, _⟩ := h
    exact (lnC ln1) _ _ _ _ hS
  · obtain ⟨G, ⟨p_product, p_bits⟩, hg, hS, hm⟩ := h
    obtain ⟨v_p_product, _, rfl, h_p_product, v_p_bits, rfl, h_p_bits⟩ := hS
    refine ⟨_, (pss_cons (ps_for (passes_of rfl) rfl (pi_range1 rfl T.n_range (pa_cons (pe_callB (r := Mw.rLen K) call_len (by rfl) T.n_len b_len (pa_cons (pv 1) pa_nil)) pa_nil)) (pg_name (i := 2) sc_law_takes.nd rfl (by first | exact Or.inl rfl | exact Or.inr rfl)) (pss_cons (ps_if (PW.pt (pw_and (pt_cmpR op_ne (pe_ix (r := rIxT K) ix_tup (pv 0) (pv 2) (fun _ _ => rfl)) pe_int (nomark _)) (pw_and1 (pt_cmpR op_ne (pe_ix (r := rIxT K) ix_tup (pv 0) (pv 2) (fun _ _ => rfl)) (pe_ix (r := rIxL K) ix_list (pv 1) (pv 2) (fun _ _ => rfl)) (nomark _))))) (pss_cons (ps_ret pe_bl)
     pss_nil) pss_nil)
     pss_nil))
     (pss_cons (ps_ret pe_bl)
     pss_nil)), ?_⟩
    have hs : Hs ⟨H, G, E, cl⟩ G [] H := Hs.start hg
    have hm := Wp.ofSp (G0 := G) hm
    try dsimp only at hm
    unfold m_law_takes at hm
    refine (show (_ : TS) _ ([some v_p_product, some v_p_bits, none] : L2.St) _ from ?_)
    refine w_forB (K := K) (Rr := rB) (fun (_ : Unit) (σ : L2.St) (G : Hp) (O : Own) => ∃ (d_2 : Option V), σ = [some v_p_product, some v_p_bits, d_2] ∧ O = []) (i_rng1 (e_len sq_K (e_var (K := K) (i := 1) (R := (rK zI)) (x := p_bits) rfl h_p_bits))) (fun _ _ _ _ _ _ h => nomatch h) (tg_name (i := 2) (R := zI)) hs hm ⟨none, rfl, rfl⟩ (fun r v G2 O2 H2 hs2 hr2 hq => hq v G2 H2 hs2.fin hr2) (fun p_k s_ σ_ G1_1 G1 O_ H1 vv1 D1 Qb1 e1 w_ e11 hs hv1 E1 hm => ?_) (fun s_ σ_ G1_1 G1 O_ H1 e1 w_ e11 hs hm => ?_)
    · obtain ⟨d_2, rfl, rfl⟩ := w_
      have h_p_product := (((rT zI)).mono e1 h_p_product)
      have h_p_bits := (((rK zI)).mono e1 h_p_bits)
      obtain ⟨v_p_k, rfl, h_p_k⟩ := hv1
      cases (show v_p_k = V.int p_k from h_p_k)
      have b1 := Same.refl G1
      refine (show (_ : TS) _ ([some v_p_product, some v_p_bits, some (.int p_k)] : L2.St) _ from ?_)
      unfold m_law_takes_b3 at hm
      try dsimp only at hm
      refine w_if (t_and (t_test (K := K) (e_ne srI (e_ixT (e_var (K := K) (i := 0) (R := (rT zI)) (x := p_product) rfl h_p_product) (e_var (K := K) (i := 2) (R := zI) (x := p_k) rfl rfl)) e_int)) (t_test (K := K) (e_ne srI (e_ixT (e_var (K := K) (i := 0) (R := (rT zI)) (x := p_product) rfl h_p_product) (e_var (K := K) (i := 2) (R := zI) (x := p_k) rfl rfl)) (e_ixL (e_KL (e_var (K := K) (i := 1) (R := (rK zI)) (x := p_bits) rfl h_p_bits)) (e_var (K := K) (i := 2) (R := zI) (x := p_k) rfl rfl))))) hs hm (fun G2 H2 e2 hs hm => ?_) (fun G2 H2 e2 hs hm => ?_)
      · have h_p_product := (((rT zI)).mono e2 h_p_product)
        have h_p_bits := (((rK zI)).mono e2 h_p_bits)
        have b1 := Same.trans b1 e2
        exact w_ret (K := K) (kr := Tn.rt) e_bl hs hm fun r v G2 H2 hs2 hr2 hq => E1.rt r v _ _ _ hs2 hr2 hq
      · have h_p_product := (((rT zI)).mono e2 h_p_product)
        have h_p_bits := (((rK zI)).mono e2 h_p_bits)
        have b1 := Same.trans b1 e2
        refine nx_of ?_
        refine (show (_ : TS) _ ([some v_p_product, some v_p_bits, some (.int p_k)] : L2.St) _ from ?_)
        exact E1.nx () _ _ _ _ _ b1 ⟨some (.int p_k), rfl, rfl⟩ (Same.refl _) hs hm.out
    · obtain ⟨d_2, rfl, rfl⟩ := w_
      have h_p_product := (((rT zI)).mono e1 h_p_product)
      have h_p_bits := (((rK zI)).mono e1 h_p_bits)
      refine (show (_ : TS) _ ([some v_p_product, some v_p_bits, d_2] : L2.St) _ from ?_)
      try dsimp only at hm
      exact w_ret0 (K := K) e_bl hs hm fun r v G2 H2 hs2 hr2 hq => hq v G2 H2 hs2.fin hr2

theorem ok_law_truth {P : Program} {w : World} {K : PySem.W.Frag} {mg : Str → Option Value} {base : Heap} {cl : Nat → Addr} {fa : Addr} {fd : FuncData} (F : Fun K "_law_truth" "_law_truth" s_law_truth fa fd) (T : Txt K mg cl) (C_law_parts : Cal P w K mg base "_law_parts" 1 ["cell", "sizes"] (spP K cl (rsC zI (rs1 (rK zI))) (rK zI) (fun a => m_law_parts (a.1) (a.2)))) (C_law_far : Cal P w K mg base "_law_far" 1 ["script", "k"] (spP K cl (rsC (rL zI) (rs1 zI)) zI (fun a => m_law_far (a.1) (a.2)))) :
    FnOk P w K mg base (L2.CX P w) 2 fa fd ["script", "at", "count"] (spP K cl (rsC (rL zI) (rsC zI (rs1 zI))) (rK zI) (fun a => m_law_truth (a.1) (a.2.1) (a.2.2))) := by
  refine F.okX sc_law_truth (fun vs H Q E h => ?_) (fun cdv A outer s H vs Q E hr h => ?_)
  · obtain ⟨G, a, _, hS, _⟩ := h
    exact (lnC (lnC ln1)) _ _ _ _ hS
  · obtain ⟨G, ⟨p_script, p_at, p_count⟩, hg, hS, hm⟩ := h
    obtain ⟨v_p_script, _, rfl, h_p_script, v_p_at, _, rfl, h_p_at, v_p_count, rfl, h_p_count⟩ := hS
    cases (show v_p_at = V.int p_at from h_p_at)
    cases (show v_p_count = V.int p_count from h_p_count)
    have tk : Takes (cxOf (L2.CX P w) P w K mg base N_law_truth "_law_truth" (defScope s_law_truth) fa cdv A outer s H E) (fun cls d _ H => E cls d H) := takes_of rfl rfl rfl rfl
    refine ⟨_, (pss_cons (ps_set (i := 3) sc_law_truth.nd rfl (by first | exact Or.inl rfl | exact Or.inr rfl) (pe_call (E := E) C_law_parts.ok (hr.mono (by decide)) rfl C_law_parts.mgx C_law_parts.kp C_law_parts.bd .nil (passes_call tk (fun _ _ _ _ h => h)) (pa_cons (pe_call (E := E) C_law_far.ok (hr.mono (by decide)) rfl C_law_far.mgx C_law_far.kp C_law_far.bd .nil (passes_call tk (fun _ _ _ _ h => h)) (pa_cons (pv 0) (pa_cons (pv 1) pa_nil))) (pa_cons (pe_op op_cat (pe_lst (pa_cons pe_int pa_nil)) (pe_op op_rep (pe_lst (pa_cons pe_int pa_nil)) (pe_op op_shl pe_int (pv 2)))) pa_nil))))
     (pss_cons (ps_set (i := 4) sc_law_truth.nd rfl (by first | exact Or.inl rfl | exact Or.inr rfl) (pe_ix (r := rIxL K) ix_list (pe_lst (pa_cons pe_int (pa_cons pe_int (pa_cons pe_int (pa_cons pe_int (pa_cons pe_int (pa_cons pe_int (pa_cons pe_int (pa_cons pe_int (pa_cons pe_int (pa_cons pe_int pa_nil))))))))))) (pe_ix (r := rIxL K) ix_list (pv 3) pe_int (fun _ _ => rfl)) (fun _ _ => rfl)))
     (pss_cons (ps_ret (pe_lc (own := [("part", 5)]) rfl sc_law_truth.nd (pi_list (pe_slice (r := rSlL K) sl_list (pv 3) (po_some pe_int) po_none)) (blkOk_by (own := [("part", 5)]) (N := N_law_truth) (sc := defScope s_law_truth) (by decide +kernel)) (fun _ _ _ _ _ => (pg_name (i := 5) sc_law_truth.nd rfl (by first | exact Or.inl rfl | exact Or.inr rfl))) (fun _ _ _ _ _ => pts_nil) (fun _ _ _ _ _ => (pe_callTy call_int1 (by rfl) T.n_int b_int (pa_cons (pe_cmpR op_lt (pv 5) (pv 4) (nomark _)) pa_nil)))))
     pss_nil))), ?_⟩
    have hs : Hs ⟨H, G, E, cl⟩ G [] H := Hs.start hg
    have hm := Wp.ofSp (G0 := G) hm
    try dsimp only at hm
    unfold m_law_truth at hm
    refine (show (_ : TS) _ ([some v_p_script, some (.int p_at), some (.int p_count), none, none, none] : L2.St) _ from ?_)
    refine w_asg (K := K) (tg_name (i := 3) (R := (rK zI))) (e_call (fm := ⟨H, G, E, cl⟩) (a_cons (e_call (fm := ⟨H, G, E, cl⟩) (a_cons (e_var (K := K) (i := 0) (R := (rL zI)) (x := p_script) rfl h_p_script) (a_one (e_var (K := K) (i := 1) (R := zI) (x := p_at) rfl rfl)))) (a_one (EvN.evK (n_cat (EvN.evK (e_lst (l_cons e_int l_nil) (by decide))) (EvN.evK (n_rep (EvN.evK (e_lst (l_cons e_int l_nil) (by decide))) (e_shl e_int (e_var (K := K) (i := 2) (R := zI) (x := p_count) rfl rfl))))))))) hs hm (fun p_parts vv1 G1 H1 e1 hs hv1 hm => ?_)
    obtain ⟨v_p_parts, rfl, h_p_parts⟩ := hv1
    have h_p_script := (((rL zI)).mono e1 h_p_script)
    refine (show (_ : TS) _ ([some v_p_script, some (.int p_at), some (.int p_count), some v_p_parts, none, none] : L2.St) _ from ?_)
    refine w_asg (K := K) (tg_name (i := 4) (R := zI)) (e_ixL (e_KL (EvN.evK (e_lst (l_cons e_int (l_cons e_int (l_cons e_int (l_cons e_int (l_cons e_int (l_cons e_int (l_cons e_int (l_cons e_int (l_cons e_int (l_cons e_int l_nil)))))))))) (by decide)))) (e_ixL (e_KL (e_var (K := K) (i := 3) (R := (rK zI)) (x := p_parts) rfl h_p_parts)) e_int)) hs hm (fun p_share vv2 G2 H2 e2 hs hv2 hm => ?_)
    obtain ⟨v_p_share, rfl, h_p_share⟩ := hv2
    cases (show v_p_share = V.int p_share from h_p_share)
    have h_p_script := (((rL zI)).mono e2 h_p_script)
    have h_p_parts := (((rK zI)).mono e2 h_p_parts)
    refine (show (_ : TS) _ ([some v_p_script, some (.int p_at), some (.int p_count), some v_p_parts, some (.int p_share), none] : L2.St) _ from ?_)
    exact w_ret0 (K := K) (EvN.evK (n_lc (S := zI) (i_list (e_KL (EvN.evK (n_slice (e_KL (e_var (K := K) (i := 3) (R := (rK zI)) (x := p_parts) rfl h_p_parts)) (o_some (K := K) e_int) o_none)))) (fun _ h => nomatch h) (tg_name (i := 5) (R := zI)) (by decide) (fun x3 vs3 G3 e3 hv3 => by
     obtain ⟨v3_p_part, rfl, h3_p_part⟩ := hv3
     exact ⟨t_yes, (e_intB (e_cmp (p := fun i j => decide (i < j)) (e_var (K := K) (i := 5) (R := zI) (x := x3) rfl h3_p_part) (e_var (K := K) (i := 4) (R := zI) (x := p_share) rfl rfl)))⟩))) hs hm fun r v G2 H2 hs2 hr2 hq => hq v G2 H2 hs2.fin hr2

theorem ok_law_node {P : Program} {w : World} {K : PySem.W.Frag} {mg : Str → Option Value} {base : Heap} {cl : Nat → Addr} {fa : Addr} {fd : FuncData} (F : Fun K "_law_node" "_law_node" s_law_node fa fd) (T : Txt K mg cl) {C : Addr} (TD : DFacts K C) (C_law_bits : Cal P w K mg base "_law_bits" 1 ["number", "count"] (spPF K cl (rsC zI (rs1 zI)) (fun H => (rF H zI)) (fun a => m_law_bits (a.1) (a.2)))) (C_D_variable : MCal P w K mg base C "variable" 2 ["self", "i"] (spX K cl (ObD K C) (fun v0 => (rsV v0 (rs1 zI))) zI (fun s a => x_D_variable s a))) (C_D_both : MCal P w K mg base C "both" 16 ["self", "f", "g"] (spX K cl (ObD K C) (fun v0 => (rsV v0 (rsC zI (rs1 zI)))) zI (fun s a => x_D_both s (a.1) (a.2)))) (C_D_negate : MCal P w K mg base C "negate" 16 ["self", "f"] (spX K cl (ObD K C) (fun v0 => (rsV v0 (rs1 zI))) zI (fun s a => x_D_negate s a))) (C_D_either : MCal P w K mg base C "either" 16 ["self", "f", "g"] (spX K cl (ObD K C) (fun v0 => (rsV v0 (rsC zI (rs1 zI)))) zI (fun s a => x_D_either s (a.1) (a.2)))) :
    FnOk P w K mg base (L2.CX P w) 17 fa fd ["diagrams", "count", "truth"] (spX K cl (ObD K C) (fun v0 => (rsV v0 (rsC zI (rs1 (rK zI))))) zI (fun s a => x_law_node s (a.1) (a.2))) := by
  refine F.okX sc_law_node (fun vs H Q E h => ?_) (fun cdv A outer s H vs Q E hr h => ?_)
  · obtain ⟨F1, G, O, d, v0, a, _, _, hS, _⟩ := h
    exact (lnV (lnC ln1)) _ _ _ _ hS
  · obtain ⟨F1, G, O_p_diagrams, p_diagrams, v_p_diagrams, ⟨p_count, p_truth⟩, hs, h_p_diagrams, hS, hm⟩ := h
    obtain ⟨_, rfl, ⟨v_p_count, _, rfl, h_p_count, ⟨v_p_truth, rfl, h_p_truth⟩⟩⟩ := hS
    cases (show v_p_count = V.int p_count from h_p_count)
    have tk : Takes (cxOf (L2.CX P w) P w K mg base N_law_node "_law_node" (defScope s_law_node) fa cdv A outer s H E) (fun cls d _ H => E cls d H) := takes_of rfl rfl rfl rfl
    refine ⟨_, (pss_cons (ps_set (i := 3) sc_law_node.nd rfl (by first | exact Or.inl rfl | exact Or.inr rfl) pe_int)
     (pss_cons (ps_for (passes_of rfl) rfl (pi_range1 rfl T.n_range (pa_cons (pe_callB (r := Mw.rLen K) call_len (by rfl) T.n_len b_len (pa_cons (pv 2) pa_nil)) pa_nil)) (pg_name (i := 4) sc_law_node.nd rfl (by first | exact Or.inl rfl | exact Or.inr rfl)) (pss_cons (ps_if (pt_cmpR op_eq (pe_ix (r := rIxL K) ix_list (pv 2) (pv 4) (fun _ _ => rfl)) pe_int (nomark _)) (pss_cons (ps_set (i := 5) sc_law_node.nd rfl (by first | exact Or.inl rfl | exact Or.inr rfl) pe_int)
     (pss_cons (ps_asg (pe_call (E := E) C_law_bits.ok (hr.mono (by decide)) rfl C_law_bits.mgx C_law_bits.kp C_law_bits.bd .nil (passes_call tk (fun _ _ _ _ h => h)) (pa_cons (pv 4) (pa_cons (pv 1) pa_nil))) (pg_name (i := 6) sc_law_node.nd rfl (by first | exact Or.inl rfl | exact Or.inr rfl)))
     (pss_cons (ps_for (passes_of rfl) rfl (pi_range1 rfl T.n_range (pa_cons (pv 1) pa_nil)) (pg_name (i := 7) sc_law_node.nd rfl (by first | exact Or.inl rfl | exact Or.inr rfl)) (pss_cons (ps_asg (pe_meth (E := E) (pv 0) TD.cl C_D_variable.me C_D_variable.ok (hr.mono (by decide)) C_D_variable.bd .nil (passes_call tk (fun _ _ _ _ h => h)) (pa_cons (pv 7) pa_nil)) (pg_name (i := 8) sc_law_node.nd rfl (by first | exact Or.inl rfl | exact Or.inr rfl)))
     (pss_cons (ps_if (pt_cmpR op_eq (pe_ix (r := rIxL K) ix_list (pv 6) (pv 7) (fun _ _ => rfl)) pe_int (nomark _)) (pss_cons (ps_asg (pe_meth (E := E) (pv 0) TD.cl C_D_negate.me C_D_negate.ok (hr.mono (by decide)) C_D_negate.bd .nil (passes_call tk (fun _ _ _ _ h => h)) (pa_cons (pv 8) pa_nil)) (pg_name (i := 8) sc_law_node.nd rfl (by first | exact Or.inl rfl | exact Or.inr rfl)))
     pss_nil) pss_nil)
     (pss_cons (ps_asg (pe_meth (E := E) (pv 0) TD.cl C_D_both.me C_D_both.ok (hr.mono (by decide)) C_D_both.bd .nil (passes_call tk (fun _ _ _ _ h => h)) (pa_cons (pv 5) (pa_cons (pv 8) pa_nil))) (pg_name (i := 5) sc_law_node.nd rfl (by first | exact Or.inl rfl | exact Or.inr rfl)))
     pss_nil))))
     (pss_cons (ps_asg (pe_meth (E := E) (pv 0) TD.cl C_D_either.me C_D_either.ok (hr.mono (by decide)) C_D_either.bd .nil (passes_call tk (fun _ _ _ _ h => h)) (pa_cons (pv 3) (pa_cons (pv 5) pa_nil))) (pg_name (i := 3) sc_law_node.nd rfl (by first | exact Or.inl rfl | exact Or.inr rfl)))
     pss_nil)))) pss_nil)
     pss_nil))
     (pss_cons (ps_ret (pv 3))
     pss_nil))), ?_⟩
    have hs := Hs.wrap hs
    have hm : Wp (x_law_node p_diagrams p_count p_truth) (QX K ⟨F1, G, E, cl⟩ (ObD K C) v_p_diagrams zI Q) _ := QX.start hm
    try dsimp only at hm
    unfold x_law_node at hm
    refine (show (_ : TS) _ ([some v_p_diagrams, some (.int p_count), some v_p_truth, none, none, none, none, none, none] : L2.St) _ from ?_)
    refine w_asg (K := K) (tg_name (i := 3) (R := zI)) e_int hs hm (fun p_node vv1 G1 H1 e1 hs hv1 hm => ?_)
    obtain ⟨v_p_node, rfl, h_p_node⟩ := hv1
    cases (show v_p_node = V.int p_node from h_p_node)
    have h_p_diagrams := (obD_mono _ _ _ _ _ e1 h_p_diagrams)
    have h_p_truth := (((rK zI)).mono e1 h_p_truth)
    refine (show (_ : TS) _ ([some v_p_diagrams, some (.int p_count), some v_p_truth, some (.int p_node), none, none, none, none, none] : L2.St) _ from ?_)
    refine w_forBY (K := K) (fun (s : Int × Sd) (σ : L2.St) (G : Hp) (O : Own) => match s with | (p_node, p_diagrams) => ∃ (O_p_diagrams : Own) (d_4 : Option V) (d_5 : Option V) (d_6 : Option V) (d_7 : Option V) (d_8 : Option V), σ = [some v_p_diagrams, some (.int p_count), some v_p_truth, some (.int p_node), d_4, d_5, d_6, d_7, d_8] ∧ O = [] ++ (O_p_diagrams ++ []) ∧ (ObD K C) p_diagrams v_p_diagrams G O_p_diagrams) (RTX K (ObD K C) v_p_diagrams zI) (XPX ⟨F1, G, E, cl⟩ (ObD K C) v_p_diagrams) (i_rng1 (e_len sq_K (e_var (K := K) (i := 2) (R := (rK zI)) (x := p_truth) rfl h_p_truth))) (fun _ _ _ _ _ _ h => nomatch h) (tg_name (i := 4) (R := zI)) hs hm ⟨O_p_diagrams, none, none, none, none, none, rfl, rfl, h_p_diagrams⟩ rtx_fn xpx_fn (fun p_case s_ σ_ G1_2 G2 O_ H2 vv2 D2 Qb2 e2 w_ e12 hs hv2 E2 hm => ?_) (fun s_ σ_ G1_2 G2 O_ H2 e2 w_ e12 hs hm => ?_)
    · obtain ⟨p_node, p_diagrams⟩ := s_
      obtain ⟨O_p_diagrams, d_4, d_5, d_6, d_7, d_8, rfl, rfl, h_p_diagrams⟩ := w_
      have h_p_truth := (((rK zI)).mono e2 h_p_truth)
      have h_p_diagrams := (obD_mono _ _ _ _ _ e12 h_p_diagrams)
      obtain ⟨v_p_case, rfl, h_p_case⟩ := hv2
      cases (show v_p_case = V.int p_case from h_p_case)
      have b2 := Same.refl G2
      refine (show (_ : TS) _ ([some v_p_diagrams, some (.int p_count), some v_p_truth, some (.int p_node), some (.int p_case), d_5, d_6, d_7, d_8] : L2.St) _ from ?_)
      unfold x_law_node_b14 at hm
      try dsimp only at hm
      refine w_if (t_test (K := K) (e_eq srI (e_ixL (e_KL (e_var (K := K) (i := 2) (R := (rK zI)) (x := p_truth) rfl h_p_truth)) (e_var (K := K) (i := 4) (R := zI) (x := p_case) rfl rfl)) e_int)) hs hm (fun G3 H3 e3 hs hm => ?_) (fun G3 H3 e3 hs hm => ?_)
      · have h_p_diagrams := (obD_mono _ _ _ _ _ e3 h_p_diagrams)
        have h_p_truth := (((rK zI)).mono e3 h_p_truth)
        have b2 := Same.trans b2 e3
        refine w_asg (K := K) (tg_name (i := 5) (R := zI)) e_int hs hm (fun p_part vv4 G4 H4 e4 hs hv4 hm => ?_)
        obtain ⟨v_p_part, rfl, h_p_part⟩ := hv4
        cases (show v_p_part = V.int p_part from h_p_part)
        have h_p_diagrams := (obD_mono _ _ _ _ _ e4 h_p_diagrams)
        have h_p_truth := (((rK zI)).mono e4 h_p_truth)
        have b2 := Same.trans b2 e4
        refine (show (_ : TS) _ ([some v_p_diagrams, some (.int p_count), some v_p_truth, some (.int p_node), some (.int p_case), some (.int p_part), d_6, d_7, d_8] : L2.St) _ from ?_)
        refine w_asgY (K := K) (La := []) (Lb := []) (O := O_p_diagrams) (tg_name (i := 6) (R := (rK zI))) (y_pure0 obmD (fun Fz _ => (e_FK (e_callF (Rf := fun H => (rF H zI)) (fm := ⟨Fz, G, E, cl⟩) an_F (a_cons (e_var (K := K) (i := 4) (R := zI) (x := p_case) rfl rfl) (a_one (e_var (K := K) (i := 1) (R := zI) (x := p_count) rfl rfl))))))) hs h_p_diagrams (hx_loop E2) hm (fun p_bits p_diagrams vv5 G5 O_p_diagrams H5 e5 hs hd5 hv5 hm => ?_)
        try dsimp only at hm
        obtain ⟨v_p_bits, rfl, h_p_bits⟩ := hv5
        have h_p_truth := (((rK zI)).mono e5 h_p_truth)
        have h_p_diagrams := hd5
        have b2 := Same.trans b2 e5
        refine (show (_ : TS) _ ([some v_p_diagrams, some (.int p_count), some v_p_truth, some (.int p_node), some (.int p_case), some (.int p_part), some v_p_bits, d_7, d_8] : L2.St) _ from ?_)
        refine w_forBY (K := K) (fun (s : Int × Sd) (σ : L2.St) (G : Hp) (O : Own) => match s with | (p_part, p_diagrams) => ∃ (O_p_diagrams : Own) (d_7 : Option V) (d_8 : Option V), σ = [some v_p_diagrams, some (.int p_count), some v_p_truth, some (.int p_node), some (.int p_case), some (.int p_part), some v_p_bits, d_7, d_8] ∧ O = [] ++ (O_p_diagrams ++ []) ∧ (ObD K C) p_diagrams v_p_diagrams G O_p_diagrams) (RTX K (ObD K C) v_p_diagrams zI) (XPX ⟨F1, G, E, cl⟩ (ObD K C) v_p_diagrams) (i_rng1 (e_var (K := K) (i := 1) (R := zI) (x := p_count) rfl rfl)) (fun _ _ _ _ _ _ h => nomatch h) (tg_name (i := 7) (R := zI)) hs hm ⟨O_p_diagrams, d_7, d_8, rfl, rfl, h_p_diagrams⟩ (fun r v G2 O2 H2 hs2 hr2 hq => E2.rt r v _ _ _ hs2 hr2 hq) (fun r hq => E2.xt r hq) (fun p_k s_ σ_ G1_6 G6 O_ H6 vv6 D6 Qb6 e6 w_ e16 hs hv6 E6 hm => ?_) (fun s_ σ_ G1_6 G6 O_ H6 e6 w_ e16 hs hm => ?_)
        · obtain ⟨p_part, p_diagrams⟩ := s_
          obtain ⟨O_p_diagrams, d_7, d_8, rfl, rfl, h_p_diagrams⟩ := w_
          have h_p_truth := (((rK zI)).mono e6 h_p_truth)
          have h_p_bits := (((rK zI)).mono e6 h_p_bits)
          have h_p_diagrams := (obD_mono _ _ _ _ _ e16 h_p_diagrams)
          obtain ⟨v_p_k, rfl, h_p_k⟩ := hv6
          cases (show v_p_k = V.int p_k from h_p_k)
          have b6 := Same.refl G6
          refine (show (_ : TS) _ ([some v_p_diagrams, some (.int p_count), some v_p_truth, some (.int p_node), some (.int p_case), some (.int p_part), some v_p_bits, some (.int p_k), d_8] : L2.St) _ from ?_)
          unfold x_law_node_b13 at hm
          try dsimp only at hm
          refine w_asgY (K := K) (La := []) (Lb := []) (O := O_p_diagrams) (tg_name (i := 8) (R := zI)) (y_meth (mt := "variable") (fm := ⟨F1, G, E, cl⟩) (S := (rs1 zI)) (h := fun s a => x_D_variable s a) (objD (by exact fun _ _ _ _ => rfl)) rfl (yA_one (y_pure0 obmD (fun Fz _ => (e_var (K := K) (i := 7) (R := zI) (x := p_k) rfl rfl))))) hs h_p_diagrams (hx_loop E6) hm (fun p_literal p_diagrams vv7 G7 O_p_diagrams H7 e7 hs hd7 hv7 hm => ?_)
          try dsimp only at hm
          obtain ⟨v_p_literal, rfl, h_p_literal⟩ := hv7
          cases (show v_p_literal = V.int p_literal from h_p_literal)
          have h_p_truth := (((rK zI)).mono e7 h_p_truth)
          have h_p_bits := (((rK zI)).mono e7 h_p_bits)
          have h_p_diagrams := hd7
          have b6 := Same.trans b6 e7
          refine (show (_ : TS) _ ([some v_p_diagrams, some (.int p_count), some v_p_truth, some (.int p_node), some (.int p_case), some (.int p_part), some v_p_bits, some (.int p_k), some (.int p_literal)] : L2.St) _ from ?_)
          refine w_ifJ (k := fun s_ => (x_law_node_j9 p_part s_)) (fun (s : Int × Sd) (σ : L2.St) (G : Hp) (O : Own) => match s with | (p_literal, p_diagrams) => ∃ (O_p_diagrams : Own), σ = [some v_p_diagrams, some (.int p_count), some v_p_truth, some (.int p_node), some (.int p_case), some (.int p_part), some v_p_bits, some (.int p_k), some (.int p_literal)] ∧ O = [] ++ (O_p_diagrams ++ []) ∧ (ObD K C) p_diagrams v_p_diagrams G O_p_diagrams) (t_test (K := K) (e_eq srI (e_ixL (e_KL (e_var (K := K) (i := 6) (R := (rK zI)) (x := p_bits) rfl h_p_bits)) (e_var (K := K) (i := 7) (R := zI) (x := p_k) rfl rfl)) e_int)) hs hm (fun s_ σ_ G1_8 G8 O_ H8 e8 w_ e18 hs hm => ?_) (fun G8 H8 J8 e8 hs hm => ?_) (fun G8 H8 J8 e8 hs hm => ?_)
          · obtain ⟨p_literal, p_diagrams⟩ := s_
            obtain ⟨O_p_diagrams, rfl, rfl, h_p_diagrams⟩ := w_
            have h_p_truth := (((rK zI)).mono e8 h_p_truth)
            have h_p_bits := (((rK zI)).mono e8 h_p_bits)
            have h_p_diagrams := (obD_mono _ _ _ _ _ e18 h_p_diagrams)
            have b6 := Same.trans b6 e8
            refine (show (_ : TS) _ ([some v_p_diagrams, some (.int p_count), some v_p_truth, some (.int p_node), some (.int p_case), some (.int p_part), some v_p_bits, some (.int p_k), some (.int p_literal)] : L2.St) _ from ?_)
            unfold x_law_node_j9 at hm
            try dsimp only at hm
            refine w_asgY (K := K) (La := []) (Lb := []) (O := O_p_diagrams) (tg_name (i := 5) (R := zI)) (y_meth (mt := "both") (fm := ⟨F1, G, E, cl⟩) (S := (rsC zI (rs1 zI))) (h := fun s a => x_D_both s (a.1) (a.2)) (objD (by exact fun _ _ _ _ => rfl)) rfl (yA_cons (y_pure0 obmD (fun Fz _ => (e_var (K := K) (i := 5) (R := zI) (x := p_part) rfl rfl))) (yA_one (y_pure0 obmD (fun Fz _ => (e_var (K := K) (i := 8) (R := zI) (x := p_literal) rfl rfl)))))) hs h_p_diagrams (hx_loop E6) hm (fun p_part p_diagrams vv10 G10 O_p_diagrams H10 e10 hs hd10 hv10 hm => ?_)
            try dsimp only at hm
            obtain ⟨v_p_part, rfl, h_p_part⟩ := hv10
            cases (show v_p_part = V.int p_part from h_p_part)
            have h_p_truth := (((rK zI)).mono e10 h_p_truth)
            have h_p_bits := (((rK zI)).mono e10 h_p_bits)
            have h_p_diagrams := hd10
            have b6 := Same.trans b6 e10
            refine (show (_ : TS) _ ([some v_p_diagrams, some (.int p_count), some v_p_truth, some (.int p_node), some (.int p_case), some (.int p_part), some v_p_bits, some (.int p_k), some (.int p_literal)] : L2.St) _ from ?_)
            exact E6.nx (p_part, p_diagrams) _ _ _ _ _ b6 ⟨O_p_diagrams, some (.int p_k), some (.int p_literal), rfl, rfl, h_p_diagrams⟩ (Same.refl _) hs hm.out
          · have h_p_diagrams := (obD_mono _ _ _ _ _ e8 h_p_diagrams)
            have h_p_truth := (((rK zI)).mono e8 h_p_truth)
            have h_p_bits := (((rK zI)).mono e8 h_p_bits)
            have b6 := Same.trans b6 e8
            have b8 := Same.refl G8
            refine w_asgY (K := K) (La := []) (Lb := []) (O := O_p_diagrams) (tg_name (i := 8) (R := zI)) (y_meth (mt := "negate") (fm := ⟨F1, G, E, cl⟩) (S := (rs1 zI)) (h := fun s a => x_D_negate s a) (objD (by exact fun _ _ _ _ => rfl)) rfl (yA_one (y_pure0 obmD (fun Fz _ => (e_var (K := K) (i := 8) (R := zI) (x := p_literal) rfl rfl))))) hs h_p_diagrams (hx_loop E6) hm (fun p_literal p_diagrams vv11 G11 O_p_diagrams H11 e11 hs hd11 hv11 hm => ?_)
            try dsimp only at hm
            obtain ⟨v_p_literal, rfl, h_p_literal⟩ := hv11
            cases (show v_p_literal = V.int p_literal from h_p_literal)
            have h_p_truth := (((rK zI)).mono e11 h_p_truth)
            have h_p_bits := (((rK zI)).mono e11 h_p_bits)
            have h_p_diagrams := hd11
            have b6 := Same.trans b6 e11
            have b8 := Same.trans b8 e11
            refine (show (_ : TS) _ ([some v_p_diagrams, some (.int p_count), some v_p_truth, some (.int p_node), some (.int p_case), some (.int p_part), some v_p_bits, some (.int p_k), some (.int p_literal)] : L2.St) _ from ?_)
            exact J8.nx (p_literal, p_diagrams) _ _ _ _ _ b8 ⟨O_p_diagrams, rfl, rfl, h_p_diagrams⟩ (Same.refl _) hs hm
          · have h_p_diagrams := (obD_mono _ _ _ _ _ e8 h_p_diagrams)
            have h_p_truth := (((rK zI)).mono e8 h_p_truth)
            have h_p_bits := (((rK zI)).mono e8 h_p_bits)
            have b6 := Same.trans b6 e8
            have b8 := Same.refl G8
            exact J8.nx (p_literal, p_diagrams) _ _ _ _ _ b8 ⟨O_p_diagrams, rfl, rfl, h_p_diagrams⟩ (Same.refl _) hs hm
        · obtain ⟨p_part, p_diagrams⟩ := s_
          obtain ⟨O_p_diagrams, d_7, d_8, rfl, rfl, h_p_diagrams⟩ := w_
          have h_p_truth := (((rK zI)).mono e6 h_p_truth)
          have h_p_bits := (((rK zI)).mono e6 h_p_bits)
          have h_p_diagrams := (obD_mono _ _ _ _ _ e16 h_p_diagrams)
          have b2 := Same.trans b2 e6
          refine (show (_ : TS) _ ([some v_p_diagrams, some (.int p_count), some v_p_truth, some (.int p_node), some (.int p_case), some (.int p_part), some v_p_bits, d_7, d_8] : L2.St) _ from ?_)
          try dsimp only at hm
          refine w_asgY (K := K) (La := []) (Lb := []) (O := O_p_diagrams) (tg_name (i := 3) (R := zI)) (y_meth (mt := "either") (fm := ⟨F1, G, E, cl⟩) (S := (rsC zI (rs1 zI))) (h := fun s a => x_D_either s (a.1) (a.2)) (objD (by exact fun _ _ _ _ => rfl)) rfl (yA_cons (y_pure0 obmD (fun Fz _ => (e_var (K := K) (i := 3) (R := zI) (x := p_node) rfl rfl))) (yA_one (y_pure0 obmD (fun Fz _ => (e_var (K := K) (i := 5) (R := zI) (x := p_part) rfl rfl)))))) hs h_p_diagrams (hx_loop E2) hm (fun p_node p_diagrams vv12 G12 O_p_diagrams H12 e12 hs hd12 hv12 hm => ?_)
          try dsimp only at hm
          obtain ⟨v_p_node, rfl, h_p_node⟩ := hv12
          cases (show v_p_node = V.int p_node from h_p_node)
          have h_p_truth := (((rK zI)).mono e12 h_p_truth)
          have h_p_bits := (((rK zI)).mono e12 h_p_bits)
          have h_p_diagrams := hd12
          have b2 := Same.trans b2 e12
          refine (show (_ : TS) _ ([some v_p_diagrams, some (.int p_count), some v_p_truth, some (.int p_node), some (.int p_case), some (.int p_part), some v_p_bits, d_7, d_8] : L2.St) _ from ?_)
          refine nx_of ?_
          refine (show (_ : TS) _ ([some v_p_diagrams, some (.int p_count), some v_p_truth, some (.int p_node), some (.int p_case), some (.int p_part), some v_p_bits, d_7, d_8] : L2.St) _ from ?_)
          exact E2.nx (p_node, p_diagrams) _ _ _ _ _ b2 ⟨O_p_diagrams, some (.int p_case), some (.int p_part), some v_p_bits, d_7, d_8, rfl, rfl, h_p_diagrams⟩ (Same.refl _) hs hm.out
      · have h_p_diagrams := (obD_mono _ _ _ _ _ e3 h_p_diagrams)
        have h_p_truth := (((rK zI)).mono e3 h_p_truth)
        have b2 := Same.trans b2 e3
        refine nx_of ?_
        refine (show (_ : TS) _ ([some v_p_diagrams, some (.int p_count), some v_p_truth, some (.int p_node), some (.int p_case), d_5, d_6, d_7, d_8] : L2.St) _ from ?_)
        exact E2.nx (p_node, p_diagrams) _ _ _ _ _ b2 ⟨O_p_diagrams, some (.int p_case), d_5, d_6, d_7, d_8, rfl, rfl, h_p_diagrams⟩ (Same.refl _) hs hm.out
    · obtain ⟨p_node, p_diagrams⟩ := s_
      obtain ⟨O_p_diagrams, d_4, d_5, d_6, d_7, d_8, rfl, rfl, h_p_diagrams⟩ := w_
      have h_p_truth := (((rK zI)).mono e2 h_p_truth)
      have h_p_diagrams := (obD_mono _ _ _ _ _ e12 h_p_diagrams)
      refine (show (_ : TS) _ ([some v_p_diagrams, some (.int p_count), some v_p_truth, some (.int p_node), d_4, d_5, d_6, d_7, d_8] : L2.St) _ from ?_)
      try dsimp only at hm
      exact w_retY (K := K) (La := []) (Lb := []) (O := O_p_diagrams) (kr := fun r d => (Xr.ok r, d)) (y_pure0 obmD (fun Fz _ => (e_var (K := K) (i := 3) (R := zI) (x := p_node) rfl rfl))) hs h_p_diagrams hx_fn hm fun x d v G2 O2 H2 e2 hs2 ob2 hr2 hq => QX.ret hq hs2 ob2 hr2

theorem ok_law_inside {P : Program} {w : World} {K : PySem.W.Frag} {mg : Str → Option Value} {base : Heap} {cl : Nat → Addr} {fa : Addr} {fd : FuncData} (F : Fun K "_law_inside" "_law_inside" s_law_inside fa fd) (T : Txt K mg cl) (C_law_takes : Cal P w K mg base "_law_takes" 1 ["product", "bits"] (spP K cl (rsC (rT zI) (rs1 (rK zI))) rB (fun a => m_law_takes (a.1) (a.2)))) (C_law_bits : Cal P w K mg base "_law_bits" 1 ["number", "count"] (spPF K cl (rsC zI (rs1 zI)) (fun H => (rF H zI)) (fun a => m_law_bits (a.1) (a.2)))) :
    FnOk P w K mg base (L2.CX P w) 2 fa fd ["product", "truth"] (spP K cl (rsC (rT zI) (rs1 (rK zI))) rB (fun a => m_law_inside (a.1) (a.2))) := by
  refine F.okX sc_law_inside (fun vs H Q E h => ?_) (fun cdv A outer s H vs Q E hr h => ?_)
  · obtain ⟨G, a, _, hS, _⟩ := h
    exact (lnC ln1) _ _ _ _ hS
  · obtain ⟨G, ⟨p_product, p_truth⟩, hg, hS, hm⟩ := h
    obtain ⟨v_p_product, _, rfl, h_p_product, v_p_truth, rfl, h_p_truth⟩ := hS
    have tk : Takes (cxOf (L2.CX P w) P w K mg base N_law_inside "_law_inside" (defScope s_law_inside) fa cdv A outer s H E) (fun cls d _ H => E cls d H) := takes_of rfl rfl rfl rfl
    refine ⟨_, (pss_cons (ps_for (passes_of rfl) rfl (pi_range1 rfl T.n_range (pa_cons (pe_callB (r := Mw.rLen K) call_len (by rfl) T.n_len b_len (pa_cons (pv 1) pa_nil)) pa_nil)) (pg_name (i := 2) sc_law_inside.nd rfl (by first | exact Or.inl rfl | exact Or.inr rfl)) (pss_cons (ps_if (PW.pt (pw_and (pt_cmpR op_eq (pe_ix (r := rIxL K) ix_list (pv 1) (pv 2) (fun _ _ => rfl)) pe_int (nomark _)) (pw_and1 (pt_val (pe_call (E := E) C_law_takes.ok (hr.mono (by decide)) rfl C_law_takes.mgx C_law_takes.kp C_law_takes.bd .nil (passes_call tk (fun _ _ _ _ h => h)) (pa_cons (pv 0) (pa_cons (pe_call (E := E) C_law_bits.ok (hr.mono (by decide)) rfl C_law_bits.mgx C_law_bits.kp C_law_bits.bd .nil (passes_call tk (fun _ _ _ _ h => h)) (pa_cons (pv 2) (pa_cons (pe_callB (r := Mw.rLen K) call_len (by rfl) T.n_len b_len (pa_cons (pv 0) pa_nil)) pa_nil))) pa_nil))))))) (pss_cons (ps_ret pe_bl)
     pss_nil) pss_nil)
     pss_nil))
     (pss_cons (ps_ret pe_bl)
     pss_nil)), ?_⟩
    have hs : Hs ⟨H, G, E, cl⟩ G [] H := Hs.start hg
    have hm := Wp.ofSp (G0 := G) hm
    try dsimp only at hm
    unfold m_law_inside at hm
    refine (show (_ : TS) _ ([some v_p_product, some v_p_truth, none] : L2.St) _ from ?_)
    refine w_forB (K := K) (Rr := rB) (fun (_ : Unit) (σ : L2.St) (G : Hp) (O : Own) => ∃ (d_2 : Option V), σ = [some v_p_product, some v_p_truth, d_2] ∧ O = []) (i_rng1 (e_len sq_K (e_var (K := K) (i := 1) (R := (rK zI)) (x := p_truth) rfl h_p_truth))) (fun _ _ _ _ _ _ h => nomatch h) (tg_name (i := 2) (R := zI)) hs hm ⟨none, rfl, rfl⟩ (fun r v G2 O2 H2 hs2 hr2 hq => hq v G2 H2 hs2.fin hr2) (fun p_case s_ σ_ G1_1 G1 O_ H1 vv1 D1 Qb1 e1 w_ e11 hs hv1 E1 hm => ?_) (fun s_ σ_ G1_1 G1 O_ H1 e1 w_ e11 hs hm => ?_)
    · obtain ⟨d_2, rfl, rfl⟩ := w_
      have h_p_product := (((rT zI)).mono e1 h_p_product)
      have h_p_truth := (((rK zI)).mono e1 h_p_truth)
      obtain ⟨v_p_case, rfl, h_p_case⟩ := hv1
      cases (show v_p_case = V.int p_case from h_p_case)
      have b1 := Same.refl G1
      refine (show (_ : TS) _ ([some v_p_product, some v_p_truth, some (.int p_case)] : L2.St) _ from ?_)
      unfold m_law_inside_b3 at hm
      try dsimp only at hm
      refine w_if (t_and (t_test (K := K) (e_eq srI (e_ixL (e_KL (e_var (K := K) (i := 1) (R := (rK zI)) (x := p_truth) rfl h_p_truth)) (e_var (K := K) (i := 2) (R := zI) (x := p_case) rfl rfl)) e_int)) (t_val (K := K) (e_call (fm := ⟨H, G, E, cl⟩) (a_cons (e_var (K := K) (i := 0) (R := (rT zI)) (x := p_product) rfl h_p_product) (a_one (e_FK (e_callF (Rf := fun H => (rF H zI)) (fm := ⟨H, G, E, cl⟩) an_F (a_cons (e_var (K := K) (i := 2) (R := zI) (x := p_case) rfl rfl) (a_one (e_len sq_T (e_var (K := K) (i := 0) (R := (rT zI)) (x := p_product) rfl h_p_product))))))))))) hs hm (fun G2 H2 e2 hs hm => ?_) (fun G2 H2 e2 hs hm => ?_)
      · have h_p_product := (((rT zI)).mono e2 h_p_product)
        have h_p_truth := (((rK zI)).mono e2 h_p_truth)
        have b1 := Same.trans b1 e2
        exact w_ret (K := K) (kr := Tn.rt) e_bl hs hm fun r v G2 H2 hs2 hr2 hq => E1.rt r v _ _ _ hs2 hr2 hq
      · have h_p_product := (((rT zI)).mono e2 h_p_product)
        have h_p_truth := (((rK zI)).mono e2 h_p_truth)
        have b1 := Same.trans b1 e2
        refine nx_of ?_
        refine (show (_ : TS) _ ([some v_p_product, some v_p_truth, some (.int p_case)] : L2.St) _ from ?_)
        exact E1.nx () _ _ _ _ _ b1 ⟨some (.int p_case), rfl, rfl⟩ (Same.refl _) hs hm.out
    · obtain ⟨d_2, rfl, rfl⟩ := w_
      have h_p_product := (((rT zI)).mono e1 h_p_product)
      have h_p_truth := (((rK zI)).mono e1 h_p_truth)
      refine (show (_ : TS) _ ([some v_p_product, some v_p_truth, d_2] : L2.St) _ from ?_)
      try dsimp only at hm
      exact w_ret0 (K := K) e_bl hs hm fun r v G2 H2 hs2 hr2 hq => hq v G2 H2 hs2.fin hr2

theorem ok_law_with {P : Program} {w : World} {K : PySem.W.Frag} {mg : Str → Option Value} {base : Heap} {cl : Nat → Addr} {fa : Addr} {fd : FuncData} (F : Fun K "_law_with" "_law_with" s_law_with fa fd) (T : Txt K mg cl)  :
    FnOk P w K mg base (L2.CX P w) 1 fa fd ["product", "place", "mark"] (spP K cl (rsC (rT zI) (rsC zI (rs1 zI))) (rT zI) (fun a => m_law_with (a.1) (a.2.1) (a.2.2))) := by
  refine F.okX sc_law_with (fun vs H Q E h => ?_) (fun cdv A outer s H vs Q E hr h => ?_)
  · obtain ⟨G, a, _, hS, _⟩ := h
    exact (lnC (lnC ln1)) _ _ _ _ hS
  · obtain ⟨G, ⟨p_product, p_place, p_mark⟩, hg, hS, hm⟩ := h
    obtain ⟨v_p_product, _, rfl, h_p_product, v_p_place, _, rfl, h_p_place, v_p_mark, rfl, h_p_mark⟩ := hS
    cases (show v_p_place = V.int p_place from h_p_place)
    cases (show v_p_mark = V.int p_mark from h_p_mark)
    refine ⟨_, (pss_cons (ps_ret (pe_op (r := rCatA K) op_catA (pe_op (r := rCatA K) op_catA (pe_slice (r := rSlA K) sl_tupA (pv 0) po_none (po_some (pv 1))) (pe_tup (pa_cons (pv 2) pa_nil))) (pe_slice (r := rSlA K) sl_tupA (pv 0) (po_some (pe_op op_add (pv 1) pe_int)) po_none)))
     pss_nil), ?_⟩
    have hs : Hs ⟨H, G, E, cl⟩ G [] H := Hs.start hg
    have hm := Wp.ofSp (G0 := G) hm
    try dsimp only at hm
    unfold m_law_with at hm
    refine (show (_ : TS) _ ([some v_p_product, some (.int p_place), some (.int p_mark)] : L2.St) _ from ?_)
    exact w_ret0 (K := K) (e_catT (e_catT (e_sliceT (e_var (K := K) (i := 0) (R := (rT zI)) (x := p_product) rfl h_p_product) o_none (o_some (K := K) (e_var (K := K) (i := 1) (R := zI) (x := p_place) rfl rfl))) (e_tupT (l_cons (e_var (K := K) (i := 2) (R := zI) (x := p_mark) rfl rfl) l_nil) (by decide))) (e_sliceT (e_var (K := K) (i := 0) (R := (rT zI)) (x := p_product) rfl h_p_product) (o_some (K := K) (e_add (e_var (K := K) (i := 1) (R := zI) (x := p_place) rfl rfl) e_int)) o_none)) hs hm fun r v G2 H2 hs2 hr2 hq => hq v G2 H2 hs2.fin hr2

theorem ok_law_product {P : Program} {w : World} {K : PySem.W.Frag} {mg : Str → Option Value} {base : Heap} {cl : Nat → Addr} {fa : Addr} {fd : FuncData} (F : Fun K "_law_product" "_law_product" s_law_product fa fd) (T : Txt K mg cl) (C_law_parts : Cal P w K mg base "_law_parts" 1 ["cell", "sizes"] (spP K cl (rsC zI (rs1 (rK zI))) (rK zI) (fun a => m_law_parts (a.1) (a.2)))) (C_law_far : Cal P w K mg base "_law_far" 1 ["script", "k"] (spP K cl (rsC (rL zI) (rs1 zI)) zI (fun a => m_law_far (a.1) (a.2)))) (C_law_bits : Cal P w K mg base "_law_bits" 1 ["number", "count"] (spPF K cl (rsC zI (rs1 zI)) (fun H => (rF H zI)) (fun a => m_law_bits (a.1) (a.2)))) (C_law_with : Cal P w K mg base "_law_with" 1 ["product", "place", "mark"] (spP K cl (rsC (rT zI) (rsC zI (rs1 zI))) (rT zI) (fun a => m_law_with (a.1) (a.2.1) (a.2.2)))) (C_law_inside : Cal P w K mg base "_law_inside" 2 ["product", "truth"] (spP K cl (rsC (rT zI) (rs1 (rK zI))) rB (fun a => m_law_inside (a.1) (a.2)))) :
    FnOk P w K mg base (L2.CX P w) 3 fa fd ["script", "at", "count", "truth"] (spP K cl (rsC (rL zI) (rsC zI (rsC zI (rs1 (rK zI))))) (rT zI) (fun a => m_law_product (a.1) (a.2.1) (a.2.2.1) (a.2.2.2))) := by
  refine F.okX sc_law_product (fun vs H Q E h => ?_) (fun cdv A outer s H vs Q E hr h => ?_)
  · obtain ⟨G, a, _, hS, _⟩ := h
    exact (lnC (lnC (lnC ln1))) _ _ _ _ hS
  · obtain ⟨G, ⟨p_script, p_at, p_count, p_truth⟩, hg, hS, hm⟩ := h
    obtain ⟨v_p_script, _, rfl, h_p_script, v_p_at, _, rfl, h_p_at, v_p_count, _, rfl, h_p_count, v_p_truth, rfl, h_p_truth⟩ := hS
    cases (show v_p_at = V.int p_at from h_p_at)
    cases (show v_p_count = V.int p_count from h_p_count)
    have tk : Takes (cxOf (L2.CX P w) P w K mg base N_law_product "_law_product" (defScope s_law_product) fa cdv A outer s H E) (fun cls d _ H => E cls d H) := takes_of rfl rfl rfl rfl
    refine ⟨_, (pss_cons (ps_set (i := 4) sc_law_product.nd rfl (by first | exact Or.inl rfl | exact Or.inr rfl) (pe_call (E := E) C_law_parts.ok (hr.mono (by decide)) rfl C_law_parts.mgx C_law_parts.kp C_law_parts.bd .nil (passes_call tk (fun _ _ _ _ h => h)) (pa_cons (pe_call (E := E) C_law_far.ok (hr.mono (by decide)) rfl C_law_far.mgx C_law_far.kp C_law_far.bd .nil (passes_call tk (fun _ _ _ _ h => h)) (pa_cons (pv 0) (pa_cons (pv 1) pa_nil))) (pa_cons (pe_op op_cat (pe_lst (pa_cons pe_int (pa_cons pe_int (pa_cons pe_int (pa_cons pe_int (pa_cons pe_int pa_nil)))))) (pe_op op_rep (pe_lst (pa_cons pe_int pa_nil)) (pv 2))) pa_nil))))
     (pss_cons (ps_setLc (i := 5) (own := [("case", 9)]) rfl sc_law_product.nd rfl rfl (sw_true rfl rfl rfl (by decide +kernel)) (pi_range1 rfl T.n_range (pa_cons (pe_callB (r := Mw.rLen K) call_len (by rfl) T.n_len b_len (pa_cons (pv 3) pa_nil)) pa_nil)) (blkOk_by (own := [("case", 9)]) (N := N_law_product) (sc := defScope s_law_product) (by decide +kernel)) (fun _ _ _ _ _ => (pg_name (i := 9) sc_law_product.nd rfl (by first | exact Or.inl rfl | exact Or.inr rfl))) (fun _ _ _ _ _ => (pts_one (pt_cmpR op_eq (pe_ix (r := rIxL K) ix_list (pv 3) (pv 9) (fun _ _ => rfl)) pe_int (nomark _)))) (fun _ _ _ _ _ => (pv 9)))
     (pss_cons (ps_if (PW.pt (pw_or (pt_cmpR op_eq (pe_ix (r := rIxL K) ix_list (pv 4) pe_int (fun _ _ => rfl)) pe_int (nomark _)) (pw_or1 (pt_cmpR op_eq (pe_callB (r := Mw.rLen K) call_len (by rfl) T.n_len b_len (pa_cons (pv 5) pa_nil)) pe_int (nomark _))))) (pss_cons (ps_ret (pe_callTy (r := rTu K) call_tuple_of (by rfl) T.n_tuple b_tuple (pa_cons (pe_slice (r := rSlL K) sl_list (pv 4) (po_some pe_int) po_none) pa_nil)))
     pss_nil) pss_nil)
     (pss_cons (ps_set (i := 6) sc_law_product.nd rfl (by first | exact Or.inl rfl | exact Or.inr rfl) (pe_callTy (r := rTu K) call_tuple_of (by rfl) T.n_tuple b_tuple (pa_cons (pe_call (E := E) C_law_bits.ok (hr.mono (by decide)) rfl C_law_bits.mgx C_law_bits.kp C_law_bits.bd .nil (passes_call tk (fun _ _ _ _ h => h)) (pa_cons (pe_ix (r := rIxL K) ix_list (pv 5) (pe_op op_mod (pe_callTy call_int1 (by rfl) T.n_int b_int (pa_cons (pe_ix (r := rIxL K) ix_list (pv 4) pe_int (fun _ _ => rfl)) pa_nil)) (pe_callB (r := Mw.rLen K) call_len (by rfl) T.n_len b_len (pa_cons (pv 5) pa_nil))) (fun _ _ => rfl)) (pa_cons (pv 2) pa_nil))) pa_nil)))
     (pss_cons (ps_for (passes_of rfl) rfl (pi_range1 rfl T.n_range (pa_cons (pv 2) pa_nil)) (pg_name (i := 7) sc_law_product.nd rfl (by first | exact Or.inl rfl | exact Or.inr rfl)) (pss_cons (ps_set (i := 8) sc_law_product.nd rfl (by first | exact Or.inl rfl | exact Or.inr rfl) (pe_call (E := E) C_law_with.ok (hr.mono (by decide)) rfl C_law_with.mgx C_law_with.kp C_law_with.bd .nil (passes_call tk (fun _ _ _ _ h => h)) (pa_cons (pv 6) (pa_cons (pe_op op_mod (pe_callTy call_int1 (by rfl) T.n_int b_int (pa_cons (pe_op op_add (pe_ix (r := rIxL K) ix_list (pv 4) pe_int (fun _ _ => rfl)) (pv 7)) pa_nil)) (pv 2)) (pa_cons pe_int pa_nil)))))
     (pss_cons (ps_if (pt_val (pe_call (E := E) C_law_inside.ok (hr.mono (by decide)) rfl C_law_inside.mgx C_law_inside.kp C_law_inside.bd .nil (passes_call tk (fun _ _ _ _ h => h)) (pa_cons (pv 8) (pa_cons (pv 3) pa_nil)))) (pss_cons (ps_set (i := 6) sc_law_product.nd rfl (by first | exact Or.inl rfl | exact Or.inr rfl) (pv 8))
     pss_nil) pss_nil)
     pss_nil)))
     (pss_cons (ps_if (PW.pt (pw_and (pt_cmpR op_eq (pe_ix (r := rIxL K) ix_list (pv 4) pe_int (fun _ _ => rfl)) pe_int (nomark _)) (pw_and1 (pt_cmpR op_gt (pv 2) pe_int (nomark _))))) (pss_cons (ps_set (i := 6) sc_law_product.nd rfl (by first | exact Or.inl rfl | exact Or.inr rfl) (pe_call (E := E) C_law_with.ok (hr.mono (by decide)) rfl C_law_with.mgx C_law_with.kp C_law_with.bd .nil (passes_call tk (fun _ _ _ _ h => h)) (pa_cons (pv 6) (pa_cons (pe_op op_mod (pe_callTy call_int1 (by rfl) T.n_int b_int (pa_cons (pe_ix (r := rIxL K) ix_list (pv 4) pe_int (fun _ _ => rfl)) pa_nil)) (pv 2)) (pa_cons (pe_ix (r := rIxL K) ix_list (pv 4) pe_int (fun _ _ => rfl)) pa_nil)))))
     pss_nil) pss_nil)
     (pss_cons (ps_ret (pv 6))
     pss_nil))))))), ?_⟩
    have hs : Hs ⟨H, G, E, cl⟩ G [] H := Hs.start hg
    have hm := Wp.ofSp (G0 := G) hm
    try dsimp only at hm
    unfold m_law_product at hm
    refine (show (_ : TS) _ ([some v_p_script, some (.int p_at), some (.int p_count), some v_p_truth, none, none, none, none, none, none] : L2.St) _ from ?_)
    refine w_asg (K := K) (tg_name (i := 4) (R := (rK zI))) (e_call (fm := ⟨H, G, E, cl⟩) (a_cons (e_call (fm := ⟨H, G, E, cl⟩) (a_cons (e_var (K := K) (i := 0) (R := (rL zI)) (x := p_script) rfl h_p_script) (a_one (e_var (K := K) (i := 1) (R := zI) (x := p_at) rfl rfl)))) (a_one (EvN.evK (n_cat (EvN.evK (e_lst (l_cons e_int (l_cons e_int (l_cons e_int (l_cons e_int (l_cons e_int l_nil))))) (by decide))) (EvN.evK (n_rep (EvN.evK (e_lst (l_cons e_int l_nil) (by decide))) (e_var (K := K) (i := 2) (R := zI) (x := p_count) rfl rfl)))))))) hs hm (fun p_parts vv1 G1 H1 e1 hs hv1 hm => ?_)
    obtain ⟨v_p_parts, rfl, h_p_parts⟩ := hv1
    have h_p_script := (((rL zI)).mono e1 h_p_script)
    have h_p_truth := (((rK zI)).mono e1 h_p_truth)
    refine (show (_ : TS) _ ([some v_p_script, some (.int p_at), some (.int p_count), some v_p_truth, some v_p_parts, none, none, none, none, none] : L2.St) _ from ?_)
    refine w_asg (K := K) (tg_name (i := 5) (R := (rK zI))) (EvN.evK (n_lc (S := zI) (i_rng1 (e_len sq_K (e_var (K := K) (i := 3) (R := (rK zI)) (x := p_truth) rfl h_p_truth))) (fun _ h => nomatch h) (tg_name (i := 9) (R := zI)) (by decide) (fun x2 vs2 G2 e2 hv2 => by
     obtain ⟨v2_p_case, rfl, h2_p_case⟩ := hv2
     exact ⟨(t_test (K := K) (e_eq srI (e_ixL (e_KL (e_var (K := K) (i := 3) (R := (rK zI)) (x := p_truth) rfl (((rK zI)).mono e2 h_p_truth))) (e_var (K := K) (i := 9) (R := zI) (x := x2) rfl h2_p_case)) e_int)), (e_var (K := K) (i := 9) (R := zI) (x := x2) rfl h2_p_case)⟩))) hs hm (fun p_ones vv3 G3 H3 e3 hs hv3 hm => ?_)
    obtain ⟨v_p_ones, rfl, h_p_ones⟩ := hv3
    have h_p_script := (((rL zI)).mono e3 h_p_script)
    have h_p_truth := (((rK zI)).mono e3 h_p_truth)
    have h_p_parts := (((rK zI)).mono e3 h_p_parts)
    refine (show (_ : TS) _ ([some v_p_script, some (.int p_at), some (.int p_count), some v_p_truth, some v_p_parts, some v_p_ones, none, none, none, none] : L2.St) _ from ?_)
    refine w_if (t_or (t_test (K := K) (e_eq srI (e_ixL (e_KL (e_var (K := K) (i := 4) (R := (rK zI)) (x := p_parts) rfl h_p_parts)) e_int) e_int)) (t_test (K := K) (e_eq srI (e_len sq_K (e_var (K := K) (i := 5) (R := (rK zI)) (x := p_ones) rfl h_p_ones)) e_int))) hs hm (fun G4 H4 e4 hs hm => ?_) (fun G4 H4 e4 hs hm => ?_)
    · have h_p_script := (((rL zI)).mono e4 h_p_script)
      have h_p_truth := (((rK zI)).mono e4 h_p_truth)
      have h_p_parts := (((rK zI)).mono e4 h_p_parts)
      have h_p_ones := (((rK zI)).mono e4 h_p_ones)
      exact w_ret0 (K := K) (e_tupleL (e_KL (EvN.evK (n_slice (e_KL (e_var (K := K) (i := 4) (R := (rK zI)) (x := p_parts) rfl h_p_parts)) (o_some (K := K) e_int) o_none)))) hs hm fun r v G2 H2 hs2 hr2 hq => hq v G2 H2 hs2.fin hr2
    · have h_p_script := (((rL zI)).mono e4 h_p_script)
      have h_p_truth := (((rK zI)).mono e4 h_p_truth)
      have h_p_parts := (((rK zI)).mono e4 h_p_parts)
      have h_p_ones := (((rK zI)).mono e4 h_p_ones)
      refine nx_of ?_
      refine (show (_ : TS) _ ([some v_p_script, some (.int p_at), some (.int p_count), some v_p_truth, some v_p_parts, some v_p_ones, none, none, none, none] : L2.St) _ from ?_)
      refine w_asg (K := K) (tg_name (i := 6) (R := (rT zI))) (e_tupleL (e_KL (e_FK (e_callF (Rf := fun H => (rF H zI)) (fm := ⟨H, G, E, cl⟩) an_F (a_cons (e_ixL (e_KL (e_var (K := K) (i := 5) (R := (rK zI)) (x := p_ones) rfl h_p_ones)) (e_mod (e_intI (e_ixL (e_KL (e_var (K := K) (i := 4) (R := (rK zI)) (x := p_parts) rfl h_p_parts)) e_int)) (e_len sq_K (e_var (K := K) (i := 5) (R := (rK zI)) (x := p_ones) rfl h_p_ones)))) (a_one (e_var (K := K) (i := 2) (R := zI) (x := p_count) rfl rfl))))))) hs hm (fun p_product vv5 G5 H5 e5 hs hv5 hm => ?_)
      obtain ⟨v_p_product, rfl, h_p_product⟩ := hv5
      have h_p_script := (((rL zI)).mono e5 h_p_script)
      have h_p_truth := (((rK zI)).mono e5 h_p_truth)
      have h_p_parts := (((rK zI)).mono e5 h_p_parts)
      have h_p_ones := (((rK zI)).mono e5 h_p_ones)
      refine (show (_ : TS) _ ([some v_p_script, some (.int p_at), some (.int p_count), some v_p_truth, some v_p_parts, some v_p_ones, some v_p_product, none, none, none] : L2.St) _ from ?_)
      refine w_forM (K := K) (fun (p_product : (List Int)) (σ : L2.St) (G : Hp) (O : Own) => ∃ (v_p_product : V) (d_7 : Option V) (d_8 : Option V), σ = [some v_p_script, some (.int p_at), some (.int p_count), some v_p_truth, some v_p_parts, some v_p_ones, some v_p_product, d_7, d_8, none] ∧ O = [] ∧ ((rT zI)).r K G v_p_product p_product) (i_rng1 (e_var (K := K) (i := 2) (R := zI) (x := p_count) rfl rfl)) (fun _ _ _ _ _ _ h => nomatch h) (tg_name (i := 7) (R := zI)) hs hm ⟨v_p_product, none, none, rfl, rfl, h_p_product⟩ (fun p_k p_product σ_ G1_6 G6 O_ H6 vv6 D6 Qb6 e6 w_ e16 hs hv6 E6 hm => ?_) (fun p_product σ_ G1_6 G6 O_ H6 e6 w_ e16 hs hm => ?_)
      · obtain ⟨v_p_product, d_7, d_8, rfl, rfl, h_p_product⟩ := w_
        have h_p_script := (((rL zI)).mono e6 h_p_script)
        have h_p_truth := (((rK zI)).mono e6 h_p_truth)
        have h_p_parts := (((rK zI)).mono e6 h_p_parts)
        have h_p_ones := (((rK zI)).mono e6 h_p_ones)
        have h_p_product := (((rT zI)).mono e16 h_p_product)
        obtain ⟨v_p_k, rfl, h_p_k⟩ := hv6
        cases (show v_p_k = V.int p_k from h_p_k)
        have b6 := Same.refl G6
        refine (show (_ : TS) _ ([some v_p_script, some (.int p_at), some (.int p_count), some v_p_truth, some v_p_parts, some v_p_ones, some v_p_product, some (.int p_k), d_8, none] : L2.St) _ from ?_)
        unfold m_law_product_b13 at hm
        try dsimp only at hm
        refine w_asg (K := K) (tg_name (i := 8) (R := (rT zI))) (e_call (fm := ⟨H, G, E, cl⟩) (a_cons (e_var (K := K) (i := 6) (R := (rT zI)) (x := p_product) rfl h_p_product) (a_cons (e_mod (e_intI (e_add (e_ixL (e_KL (e_var (K := K) (i := 4) (R := (rK zI)) (x := p_parts) rfl h_p_parts)) e_int) (e_var (K := K) (i := 7) (R := zI) (x := p_k) rfl rfl))) (e_var (K := K) (i := 2) (R := zI) (x := p_count) rfl rfl)) (a_one e_int)))) hs hm (fun p_larger vv7 G7 H7 e7 hs hv7 hm => ?_)
        obtain ⟨v_p_larger, rfl, h_p_larger⟩ := hv7
        have h_p_script := (((rL zI)).mono e7 h_p_script)
        have h_p_truth := (((rK zI)).mono e7 h_p_truth)
        have h_p_parts := (((rK zI)).mono e7 h_p_parts)
        have h_p_ones := (((rK zI)).mono e7 h_p_ones)
        have h_p_product := (((rT zI)).mono e7 h_p_product)
        have b6 := Same.trans b6 e7
        refine (show (_ : TS) _ ([some v_p_script, some (.int p_at), some (.int p_count), some v_p_truth, some v_p_parts, some v_p_ones, some v_p_product, some (.int p_k), some v_p_larger, none] : L2.St) _ from ?_)
        refine w_if (t_val (K := K) (e_call (fm := ⟨H, G, E, cl⟩) (a_cons (e_var (K := K) (i := 8) (R := (rT zI)) (x := p_larger) rfl h_p_larger) (a_one (e_var (K := K) (i := 3) (R := (rK zI)) (x := p_truth) rfl h_p_truth))))) hs hm (fun G8 H8 e8 hs hm => ?_) (fun G8 H8 e8 hs hm => ?_)
        · have h_p_script := (((rL zI)).mono e8 h_p_script)
          have h_p_truth := (((rK zI)).mono e8 h_p_truth)
          have h_p_parts := (((rK zI)).mono e8 h_p_parts)
          have h_p_ones := (((rK zI)).mono e8 h_p_ones)
          have h_p_product := (((rT zI)).mono e8 h_p_product)
          have h_p_larger := (((rT zI)).mono e8 h_p_larger)
          have b6 := Same.trans b6 e8
          refine w_asg (K := K) (tg_name (i := 6) (R := (rT zI))) (e_var (K := K) (i := 8) (R := (rT zI)) (x := p_larger) rfl h_p_larger) hs hm (fun p_product vv9 G9 H9 e9 hs hv9 hm => ?_)
          obtain ⟨v_p_product, rfl, h_p_product⟩ := hv9
          have h_p_script := (((rL zI)).mono e9 h_p_script)
          have h_p_truth := (((rK zI)).mono e9 h_p_truth)
          have h_p_parts := (((rK zI)).mono e9 h_p_parts)
          have h_p_ones := (((rK zI)).mono e9 h_p_ones)
          have h_p_larger := (((rT zI)).mono e9 h_p_larger)
          have b6 := Same.trans b6 e9
          refine (show (_ : TS) _ ([some v_p_script, some (.int p_at), some (.int p_count), some v_p_truth, some v_p_parts, some v_p_ones, some v_p_product, some (.int p_k), some v_p_larger, none] : L2.St) _ from ?_)
          refine nx_of ?_
          refine (show (_ : TS) _ ([some v_p_script, some (.int p_at), some (.int p_count), some v_p_truth, some v_p_parts, some v_p_ones, some v_p_product, some (.int p_k), some v_p_larger, none] : L2.St) _ from ?_)
          exact E6.nx p_product _ _ _ _ _ b6 ⟨v_p_product, some (.int p_k), some v_p_larger, rfl, rfl, h_p_product⟩ (Same.refl _) hs hm.out
        · have h_p_script := (((rL zI)).mono e8 h_p_script)
          have h_p_truth := (((rK zI)).mono e8 h_p_truth)
          have h_p_parts := (((rK zI)).mono e8 h_p_parts)
          have h_p_ones := (((rK zI)).mono e8 h_p_ones)
          have h_p_product := (((rT zI)).mono e8 h_p_product)
          have h_p_larger := (((rT zI)).mono e8 h_p_larger)
          have b6 := Same.trans b6 e8
          refine nx_of ?_
          refine (show (_ : TS) _ ([some v_p_script, some (.int p_at), some (.int p_count), some v_p_truth, some v_p_parts, some v_p_ones, some v_p_product, some (.int p_k), some v_p_larger, none] : L2.St) _ from ?_)
          exact E6.nx p_product _ _ _ _ _ b6 ⟨v_p_product, some (.int p_k), some v_p_larger, rfl, rfl, h_p_product⟩ (Same.refl _) hs hm.out
      · obtain ⟨v_p_product, d_7, d_8, rfl, rfl, h_p_product⟩ := w_
        have h_p_script := (((rL zI)).mono e6 h_p_script)
        have h_p_truth := (((rK zI)).mono e6 h_p_truth)
        have h_p_parts := (((rK zI)).mono e6 h_p_parts)
        have h_p_ones := (((rK zI)).mono e6 h_p_ones)
        have h_p_product := (((rT zI)).mono e16 h_p_product)
        refine (show (_ : TS) _ ([some v_p_script, some (.int p_at), some (.int p_count), some v_p_truth, some v_p_parts, some v_p_ones, some v_p_product, d_7, d_8, none] : L2.St) _ from ?_)
        try dsimp only at hm
        refine w_ifJ (k := fun s_ => (m_law_product_j11 s_)) (fun (p_product : (List Int)) (σ : L2.St) (G : Hp) (O : Own) => ∃ (v_p_product : V), σ = [some v_p_script, some (.int p_at), some (.int p_count), some v_p_truth, some v_p_parts, some v_p_ones, some v_p_product, d_7, d_8, none] ∧ O = [] ∧ ((rT zI)).r K G v_p_product p_product) (t_and (t_test (K := K) (e_eq srI (e_ixL (e_KL (e_var (K := K) (i := 4) (R := (rK zI)) (x := p_parts) rfl h_p_parts)) e_int) e_int)) (t_test (K := K) (e_cmp (p := fun i j => decide (j < i)) (e_var (K := K) (i := 2) (R := zI) (x := p_count) rfl rfl) e_int))) hs hm (fun p_product σ_ G1_10 G10 O_ H10 e10 w_ e110 hs hm => ?_) (fun G10 H10 J10 e10 hs hm => ?_) (fun G10 H10 J10 e10 hs hm => ?_)
        · obtain ⟨v_p_product, rfl, rfl, h_p_product⟩ := w_
          have h_p_script := (((rL zI)).mono e10 h_p_script)
          have h_p_truth := (((rK zI)).mono e10 h_p_truth)
          have h_p_parts := (((rK zI)).mono e10 h_p_parts)
          have h_p_ones := (((rK zI)).mono e10 h_p_ones)
          have h_p_product := (((rT zI)).mono e110 h_p_product)
          refine (show (_ : TS) _ ([some v_p_script, some (.int p_at), some (.int p_count), some v_p_truth, some v_p_parts, some v_p_ones, some v_p_product, d_7, d_8, none] : L2.St) _ from ?_)
          unfold m_law_product_j11 at hm
          try dsimp only at hm
          exact w_ret0 (K := K) (e_var (K := K) (i := 6) (R := (rT zI)) (x := p_product) rfl h_p_product) hs hm fun r v G2 H2 hs2 hr2 hq => hq v G2 H2 hs2.fin hr2
        · have h_p_script := (((rL zI)).mono e10 h_p_script)
          have h_p_truth := (((rK zI)).mono e10 h_p_truth)
          have h_p_parts := (((rK zI)).mono e10 h_p_parts)
          have h_p_ones := (((rK zI)).mono e10 h_p_ones)
          have h_p_product := (((rT zI)).mono e10 h_p_product)
          have b10 := Same.refl G10
          refine w_asg (K := K) (tg_name (i := 6) (R := (rT zI))) (e_call (fm := ⟨H, G, E, cl⟩) (a_cons (e_var (K := K) (i := 6) (R := (rT zI)) (x := p_product) rfl h_p_product) (a_cons (e_mod (e_intI (e_ixL (e_KL (e_var (K := K) (i := 4) (R := (rK zI)) (x := p_parts) rfl h_p_parts)) e_int)) (e_var (K := K) (i := 2) (R := zI) (x := p_count) rfl rfl)) (a_one (e_ixL (e_KL (e_var (K := K) (i := 4) (R := (rK zI)) (x := p_parts) rfl h_p_parts)) e_int))))) hs hm (fun p_product vv12 G12 H12 e12 hs hv12 hm => ?_)
          obtain ⟨v_p_product, rfl, h_p_product⟩ := hv12
          have h_p_script := (((rL zI)).mono e12 h_p_script)
          have h_p_truth := (((rK zI)).mono e12 h_p_truth)
          have h_p_parts := (((rK zI)).mono e12 h_p_parts)
          have h_p_ones := (((rK zI)).mono e12 h_p_ones)
          have b10 := Same.trans b10 e12
          refine (show (_ : TS) _ ([some v_p_script, some (.int p_at), some (.int p_count), some v_p_truth, some v_p_parts, some v_p_ones, some v_p_product, d_7, d_8, none] : L2.St) _ from ?_)
          exact J10.nx p_product _ _ _ _ _ b10 ⟨v_p_product, rfl, rfl, h_p_product⟩ (Same.refl _) hs hm
        · have h_p_script := (((rL zI)).mono e10 h_p_script)
          have h_p_truth := (((rK zI)).mono e10 h_p_truth)
          have h_p_parts := (((rK zI)).mono e10 h_p_parts)
          have h_p_ones := (((rK zI)).mono e10 h_p_ones)
          have h_p_product := (((rT zI)).mono e10 h_p_product)
          have b10 := Same.refl G10
          exact J10.nx p_product _ _ _ _ _ b10 ⟨v_p_product, rfl, rfl, h_p_product⟩ (Same.refl _) hs hm

theorem ok_law_beyond {P : Program} {w : World} {K : PySem.W.Frag} {mg : Str → Option Value} {base : Heap} {cl : Nat → Addr} {fa : Addr} {fd : FuncData} (F : Fun K "_law_beyond" "_law_beyond" s_law_beyond fa fd) (T : Txt K mg cl) (C_law_with : Cal P w K mg base "_law_with" 1 ["product", "place", "mark"] (spP K cl (rsC (rT zI) (rsC zI (rs1 zI))) (rT zI) (fun a => m_law_with (a.1) (a.2.1) (a.2.2)))) (C_law_takes : Cal P w K mg base "_law_takes" 1 ["product", "bits"] (spP K cl (rsC (rT zI) (rs1 (rK zI))) rB (fun a => m_law_takes (a.1) (a.2)))) (C_law_bits : Cal P w K mg base "_law_bits" 1 ["number", "count"] (spPF K cl (rsC zI (rs1 zI)) (fun H => (rF H zI)) (fun a => m_law_bits (a.1) (a.2)))) :
    FnOk P w K mg base (L2.CX P w) 2 fa fd ["product", "place", "truth"] (spP K cl (rsC (rT zI) (rsC zI (rs1 (rK zI)))) (rO zI) (fun a => m_law_beyond (a.1) (a.2.1) (a.2.2))) := by
  refine F.okX sc_law_beyond (fun vs H Q E h => ?_) (fun cdv A outer s H vs Q E hr h => ?_)
  · obtain ⟨G, a, _, hS, _⟩ := h
    exact (lnC (lnC ln1)) _ _ _ _ hS
  · obtain ⟨G, ⟨p_product, p_place, p_truth⟩, hg, hS, hm⟩ := h
    obtain ⟨v_p_product, _, rfl, h_p_product, v_p_place, _, rfl, h_p_place, v_p_truth, rfl, h_p_truth⟩ := hS
    cases (show v_p_place = V.int p_place from h_p_place)
    have tk : Takes (cxOf (L2.CX P w) P w K mg base N_law_beyond "_law_beyond" (defScope s_law_beyond) fa cdv A outer s H E) (fun cls d _ H => E cls d H) := takes_of rfl rfl rfl rfl
    refine ⟨_, (pss_cons (ps_set (i := 3) sc_law_beyond.nd rfl (by first | exact Or.inl rfl | exact Or.inr rfl) (pe_call (E := E) C_law_with.ok (hr.mono (by decide)) rfl C_law_with.mgx C_law_with.kp C_law_with.bd .nil (passes_call tk (fun _ _ _ _ h => h)) (pa_cons (pv 0) (pa_cons (pv 1) (pa_cons pe_int pa_nil)))))
     (pss_cons (ps_for (passes_of rfl) rfl (pi_range1 rfl T.n_range (pa_cons (pe_callB (r := Mw.rLen K) call_len (by rfl) T.n_len b_len (pa_cons (pv 2) pa_nil)) pa_nil)) (pg_name (i := 4) sc_law_beyond.nd rfl (by first | exact Or.inl rfl | exact Or.inr rfl)) (pss_cons (ps_if (PW.pt (pw_and (pt_cmpR op_eq (pe_ix (r := rIxL K) ix_list (pv 2) (pv 4) (fun _ _ => rfl)) pe_int (nomark _)) (pw_and1 (pt_val (pe_call (E := E) C_law_takes.ok (hr.mono (by decide)) rfl C_law_takes.mgx C_law_takes.kp C_law_takes.bd .nil (passes_call tk (fun _ _ _ _ h => h)) (pa_cons (pv 3) (pa_cons (pe_call (E := E) C_law_bits.ok (hr.mono (by decide)) rfl C_law_bits.mgx C_law_bits.kp C_law_bits.bd .nil (passes_call tk (fun _ _ _ _ h => h)) (pa_cons (pv 4) (pa_cons (pe_callB (r := Mw.rLen K) call_len (by rfl) T.n_len b_len (pa_cons (pv 0) pa_nil)) pa_nil))) pa_nil))))))) (pss_cons (ps_ret (pv 4))
     pss_nil) pss_nil)
     pss_nil))
     (pss_cons (ps_ret pe_non)
     pss_nil))), ?_⟩
    have hs : Hs ⟨H, G, E, cl⟩ G [] H := Hs.start hg
    have hm := Wp.ofSp (G0 := G) hm
    try dsimp only at hm
    unfold m_law_beyond at hm
    refine (show (_ : TS) _ ([some v_p_product, some (.int p_place), some v_p_truth, none, none] : L2.St) _ from ?_)
    refine w_asg (K := K) (tg_name (i := 3) (R := (rT zI))) (e_call (fm := ⟨H, G, E, cl⟩) (a_cons (e_var (K := K) (i := 0) (R := (rT zI)) (x := p_product) rfl h_p_product) (a_cons (e_var (K := K) (i := 1) (R := zI) (x := p_place) rfl rfl) (a_one e_int)))) hs hm (fun p_larger vv1 G1 H1 e1 hs hv1 hm => ?_)
    obtain ⟨v_p_larger, rfl, h_p_larger⟩ := hv1
    have h_p_product := (((rT zI)).mono e1 h_p_product)
    have h_p_truth := (((rK zI)).mono e1 h_p_truth)
    refine (show (_ : TS) _ ([some v_p_product, some (.int p_place), some v_p_truth, some v_p_larger, none] : L2.St) _ from ?_)
    refine w_forB (K := K) (Rr := (rO zI)) (fun (_ : Unit) (σ : L2.St) (G : Hp) (O : Own) => ∃ (d_4 : Option V), σ = [some v_p_product, some (.int p_place), some v_p_truth, some v_p_larger, d_4] ∧ O = []) (i_rng1 (e_len sq_K (e_var (K := K) (i := 2) (R := (rK zI)) (x := p_truth) rfl h_p_truth))) (fun _ _ _ _ _ _ h => nomatch h) (tg_name (i := 4) (R := zI)) hs hm ⟨none, rfl, rfl⟩ (fun r v G2 O2 H2 hs2 hr2 hq => hq v G2 H2 hs2.fin hr2) (fun p_case s_ σ_ G1_2 G2 O_ H2 vv2 D2 Qb2 e2 w_ e12 hs hv2 E2 hm => ?_) (fun s_ σ_ G1_2 G2 O_ H2 e2 w_ e12 hs hm => ?_)
    · obtain ⟨d_4, rfl, rfl⟩ := w_
      have h_p_product := (((rT zI)).mono e2 h_p_product)
      have h_p_truth := (((rK zI)).mono e2 h_p_truth)
      have h_p_larger := (((rT zI)).mono e2 h_p_larger)
      obtain ⟨v_p_case, rfl, h_p_case⟩ := hv2
      cases (show v_p_case = V.int p_case from h_p_case)
      have b2 := Same.refl G2
      refine (show (_ : TS) _ ([some v_p_product, some (.int p_place), some v_p_truth, some v_p_larger, some (.int p_case)] : L2.St) _ from ?_)
      unfold m_law_beyond_b4 at hm
      try dsimp only at hm
      refine w_if (t_and (t_test (K := K) (e_eq srI (e_ixL (e_KL (e_var (K := K) (i := 2) (R := (rK zI)) (x := p_truth) rfl h_p_truth)) (e_var (K := K) (i := 4) (R := zI) (x := p_case) rfl rfl)) e_int)) (t_val (K := K) (e_call (fm := ⟨H, G, E, cl⟩) (a_cons (e_var (K := K) (i := 3) (R := (rT zI)) (x := p_larger) rfl h_p_larger) (a_one (e_FK (e_callF (Rf := fun H => (rF H zI)) (fm := ⟨H, G, E, cl⟩) an_F (a_cons (e_var (K := K) (i := 4) (R := zI) (x := p_case) rfl rfl) (a_one (e_len sq_T (e_var (K := K) (i := 0) (R := (rT zI)) (x := p_product) rfl h_p_product))))))))))) hs hm (fun G3 H3 e3 hs hm => ?_) (fun G3 H3 e3 hs hm => ?_)
      · have h_p_product := (((rT zI)).mono e3 h_p_product)
        have h_p_truth := (((rK zI)).mono e3 h_p_truth)
        have h_p_larger := (((rT zI)).mono e3 h_p_larger)
        have b2 := Same.trans b2 e3
        exact w_ret (K := K) (kr := Tn.rt) (e_some nn_I (e_var (K := K) (i := 4) (R := zI) (x := p_case) rfl rfl)) hs hm fun r v G2 H2 hs2 hr2 hq => E2.rt r v _ _ _ hs2 hr2 hq
      · have h_p_product := (((rT zI)).mono e3 h_p_product)
        have h_p_truth := (((rK zI)).mono e3 h_p_truth)
        have h_p_larger := (((rT zI)).mono e3 h_p_larger)
        have b2 := Same.trans b2 e3
        refine nx_of ?_
        refine (show (_ : TS) _ ([some v_p_product, some (.int p_place), some v_p_truth, some v_p_larger, some (.int p_case)] : L2.St) _ from ?_)
        exact E2.nx () _ _ _ _ _ b2 ⟨some (.int p_case), rfl, rfl⟩ (Same.refl _) hs hm.out
    · obtain ⟨d_4, rfl, rfl⟩ := w_
      have h_p_product := (((rT zI)).mono e2 h_p_product)
      have h_p_truth := (((rK zI)).mono e2 h_p_truth)
      have h_p_larger := (((rT zI)).mono e2 h_p_larger)
      refine (show (_ : TS) _ ([some v_p_product, some (.int p_place), some v_p_truth, some v_p_larger, d_4] : L2.St) _ from ?_)
      try dsimp only at hm
      exact w_ret0 (K := K) (e_nonO (R := zI)) hs hm fun r v G2 H2 hs2 hr2 hq => hq v G2 H2 hs2.fin hr2

theorem ok_law_own {P : Program} {w : World} {K : PySem.W.Frag} {mg : Str → Option Value} {base : Heap} {cl : Nat → Addr} {fa : Addr} {fd : FuncData} (F : Fun K "_law_own" "_law_own" s_law_own fa fd) (T : Txt K mg cl) (C_law_bits : Cal P w K mg base "_law_bits" 1 ["number", "count"] (spPF K cl (rsC zI (rs1 zI)) (fun H => (rF H zI)) (fun a => m_law_bits (a.1) (a.2)))) (C_law_takes : Cal P w K mg base "_law_takes" 1 ["product", "bits"] (spP K cl (rsC (rT zI) (rs1 (rK zI))) rB (fun a => m_law_takes (a.1) (a.2)))) :
    FnOk P w K mg base (L2.CX P w) 2 fa fd ["cover", "at", "truth", "count"] (spP K cl (rsC (rK (rT zI)) (rsC zI (rsC (rK zI) (rs1 zI)))) (rO zI) (fun a => m_law_own (a.1) (a.2.1) (a.2.2.1) (a.2.2.2))) := by
  refine F.okX sc_law_own (fun vs H Q E h => ?_) (fun cdv A outer s H vs Q E hr h => ?_)
  · obtain ⟨G, a, _, hS, _⟩ := h
    exact (lnC (lnC (lnC ln1))) _ _ _ _ hS
  · obtain ⟨G, ⟨p_cover, p_at, p_truth, p_count⟩, hg, hS, hm⟩ := h
    obtain ⟨v_p_cover, _, rfl, h_p_cover, v_p_at, _, rfl, h_p_at, v_p_truth, _, rfl, h_p_truth, v_p_count, rfl, h_p_count⟩ := hS
    cases (show v_p_at = V.int p_at from h_p_at)
    cases (show v_p_count = V.int p_count from h_p_count)
    have tk : Takes (cxOf (L2.CX P w) P w K mg base N_law_own "_law_own" (defScope s_law_own) fa cdv A outer s H E) (fun cls d _ H => E cls d H) := takes_of rfl rfl rfl rfl
    refine ⟨_, (pss_cons (ps_for (passes_of rfl) rfl (pi_range1 rfl T.n_range (pa_cons (pe_callB (r := Mw.rLen K) call_len (by rfl) T.n_len b_len (pa_cons (pv 2) pa_nil)) pa_nil)) (pg_name (i := 4) sc_law_own.nd rfl (by first | exact Or.inl rfl | exact Or.inr rfl)) (pss_cons (ps_set (i := 5) sc_law_own.nd rfl (by first | exact Or.inl rfl | exact Or.inr rfl) (pe_call (E := E) C_law_bits.ok (hr.mono (by decide)) rfl C_law_bits.mgx C_law_bits.kp C_law_bits.bd .nil (passes_call tk (fun _ _ _ _ h => h)) (pa_cons (pv 4) (pa_cons (pv 3) pa_nil))))
     (pss_cons (ps_if (PW.pt (pw_and (pt_cmpR op_eq (pe_ix (r := rIxL K) ix_list (pv 2) (pv 4) (fun _ _ => rfl)) pe_int (nomark _)) (pw_and1 (pt_val (pe_call (E := E) C_law_takes.ok (hr.mono (by decide)) rfl C_law_takes.mgx C_law_takes.kp C_law_takes.bd .nil (passes_call tk (fun _ _ _ _ h => h)) (pa_cons (pe_ix (r := rIxL K) ix_list (pv 0) (pv 1) (fun _ _ => rfl)) (pa_cons (pv 5) pa_nil))))))) (pss_cons (ps_setLc (i := 6) (own := [("k", 7)]) rfl sc_law_own.nd rfl rfl (sw_true rfl rfl rfl (by decide +kernel)) (pi_range1 rfl T.n_range (pa_cons (pe_callB (r := Mw.rLen K) call_len (by rfl) T.n_len b_len (pa_cons (pv 0) pa_nil)) pa_nil)) (blkOk_by (own := [("k", 7)]) (N := N_law_own) (sc := defScope s_law_own) (by decide +kernel)) (fun _ _ _ _ _ => (pg_name (i := 7) sc_law_own.nd rfl (by first | exact Or.inl rfl | exact Or.inr rfl))) (fun _ _ _ _ _ => (pts_one (PW.pt (pw_and (pt_cmpR op_ne (pv 7) (pv 1) (nomark _)) (pw_and1 (pt_val (pe_call (E := E0) C_law_takes.ok (hr.mono (by decide)) rfl C_law_takes.mgx C_law_takes.kp C_law_takes.bd .nil passL (pa_cons (pe_ix (r := rIxL K) ix_list (pv 0) (pv 7) (fun _ _ => rfl)) (pa_cons (pv 5) pa_nil))))))))) (fun _ _ _ _ _ => (pv 7)))
     (pss_cons (ps_if (pt_cmpR op_eq (pe_callB (r := Mw.rLen K) call_len (by rfl) T.n_len b_len (pa_cons (pv 6) pa_nil)) pe_int (nomark _)) (pss_cons (ps_ret (pv 4))
     pss_nil) pss_nil)
     pss_nil)) pss_nil)
     pss_nil)))
     (pss_cons (ps_ret pe_non)
     pss_nil)), ?_⟩
    have hs : Hs ⟨H, G, E, cl⟩ G [] H := Hs.start hg
    have hm := Wp.ofSp (G0 := G) hm
    try dsimp only at hm
    unfold m_law_own at hm
    refine (show (_ : TS) _ ([some v_p_cover, some (.int p_at), some v_p_truth, some (.int p_count), none, none, none, none] : L2.St) _ from ?_)
    refine w_forB (K := K) (Rr := (rO zI)) (fun (_ : Unit) (σ : L2.St) (G : Hp) (O : Own) => ∃ (d_4 : Option V) (d_5 : Option V) (d_6 : Option V), σ = [some v_p_cover, some (.int p_at), some v_p_truth, some (.int p_count), d_4, d_5, d_6, none] ∧ O = []) (i_rng1 (e_len sq_K (e_var (K := K) (i := 2) (R := (rK zI)) (x := p_truth) rfl h_p_truth))) (fun _ _ _ _ _ _ h => nomatch h) (tg_name (i := 4) (R := zI)) hs hm ⟨none, none, none, rfl, rfl⟩ (fun r v G2 O2 H2 hs2 hr2 hq => hq v G2 H2 hs2.fin hr2) (fun p_case s_ σ_ G1_1 G1 O_ H1 vv1 D1 Qb1 e1 w_ e11 hs hv1 E1 hm => ?_) (fun s_ σ_ G1_1 G1 O_ H1 e1 w_ e11 hs hm => ?_)
    · obtain ⟨d_4, d_5, d_6, rfl, rfl⟩ := w_
      have h_p_cover := (((rK (rT zI))).mono e1 h_p_cover)
      have h_p_truth := (((rK zI)).mono e1 h_p_truth)
      obtain ⟨v_p_case, rfl, h_p_case⟩ := hv1
      cases (show v_p_case = V.int p_case from h_p_case)
      have b1 := Same.refl G1
      refine (show (_ : TS) _ ([some v_p_cover, some (.int p_at), some v_p_truth, some (.int p_count), some (.int p_case), d_5, d_6, none] : L2.St) _ from ?_)
      unfold m_law_own_b7 at hm
      try dsimp only at hm
      refine w_asg (K := K) (tg_name (i := 5) (R := (rF H zI))) (e_callF (Rf := fun H => (rF H zI)) (fm := ⟨H, G, E, cl⟩) an_F (a_cons (e_var (K := K) (i := 4) (R := zI) (x := p_case) rfl rfl) (a_one (e_var (K := K) (i := 3) (R := zI) (x := p_count) rfl rfl)))) hs hm (fun p_bits vv2 G2 H2 e2 hs hv2 hm => ?_)
      obtain ⟨v_p_bits, rfl, h_p_bits⟩ := hv2
      have h_p_cover := (((rK (rT zI))).mono e2 h_p_cover)
      have h_p_truth := (((rK zI)).mono e2 h_p_truth)
      have b1 := Same.trans b1 e2
      refine (show (_ : TS) _ ([some v_p_cover, some (.int p_at), some v_p_truth, some (.int p_count), some (.int p_case), some v_p_bits, d_6, none] : L2.St) _ from ?_)
      refine w_if (t_and (t_test (K := K) (e_eq srI (e_ixL (e_KL (e_var (K := K) (i := 2) (R := (rK zI)) (x := p_truth) rfl h_p_truth)) (e_var (K := K) (i := 4) (R := zI) (x := p_case) rfl rfl)) e_int)) (t_val (K := K) (e_call (fm := ⟨H, G, E, cl⟩) (a_cons (e_ixL (e_KL (e_var (K := K) (i := 0) (R := (rK (rT zI))) (x := p_cover) rfl h_p_cover)) (e_var (K := K) (i := 1) (R := zI) (x := p_at) rfl rfl)) (a_one (e_FK (e_var (K := K) (i := 5) (R := (rF H zI)) (x := p_bits) rfl h_p_bits))))))) hs hm (fun G3 H3 e3 hs hm => ?_) (fun G3 H3 e3 hs hm => ?_)
      · have h_p_cover := (((rK (rT zI))).mono e3 h_p_cover)
        have h_p_truth := (((rK zI)).mono e3 h_p_truth)
        have h_p_bits := (((rF H zI)).mono e3 h_p_bits)
        have b1 := Same.trans b1 e3
        refine w_asg (K := K) (tg_name (i := 6) (R := (rK zI))) (EvN.evK (n_lc (S := zI) (i_rng1 (e_len sq_K (e_var (K := K) (i := 0) (R := (rK (rT zI))) (x := p_cover) rfl h_p_cover))) (fun _ h => nomatch h) (tg_name (i := 7) (R := zI)) (by decide) (fun x4 vs4 G4 e4 hv4 => by
         obtain ⟨v4_p_k, rfl, h4_p_k⟩ := hv4
         exact ⟨(t_and (t_test (K := K) (e_ne srI (e_var (K := K) (i := 7) (R := zI) (x := x4) rfl h4_p_k) (e_var (K := K) (i := 1) (R := zI) (x := p_at) rfl rfl))) (t_val (K := K) (e_call (fm := ⟨H, G, E0, cl⟩) (a_cons (e_ixL (e_KL (e_var (K := K) (i := 0) (R := (rK (rT zI))) (x := p_cover) rfl (((rK (rT zI))).mono e4 h_p_cover))) (e_var (K := K) (i := 7) (R := zI) (x := x4) rfl h4_p_k)) (a_one (e_FK (e_var (K := K) (i := 5) (R := (rF H zI)) (x := p_bits) rfl (((rF H zI)).mono e4 h_p_bits)))))))), (e_var (K := K) (i := 7) (R := zI) (x := x4) rfl h4_p_k)⟩))) hs hm (fun p_others vv5 G5 H5 e5 hs hv5 hm => ?_)
        obtain ⟨v_p_others, rfl, h_p_others⟩ := hv5
        have h_p_cover := (((rK (rT zI))).mono e5 h_p_cover)
        have h_p_truth := (((rK zI)).mono e5 h_p_truth)
        have h_p_bits := (((rF H zI)).mono e5 h_p_bits)
        have b1 := Same.trans b1 e5
        refine (show (_ : TS) _ ([some v_p_cover, some (.int p_at), some v_p_truth, some (.int p_count), some (.int p_case), some v_p_bits, some v_p_others, none] : L2.St) _ from ?_)
        refine w_if (t_test (K := K) (e_eq srI (e_len sq_K (e_var (K := K) (i := 6) (R := (rK zI)) (x := p_others) rfl h_p_others)) e_int)) hs hm (fun G6 H6 e6 hs hm => ?_) (fun G6 H6 e6 hs hm => ?_)
        · have h_p_cover := (((rK (rT zI))).mono e6 h_p_cover)
          have h_p_truth := (((rK zI)).mono e6 h_p_truth)
          have h_p_bits := (((rF H zI)).mono e6 h_p_bits)
          have h_p_others := (((rK zI)).mono e6 h_p_others)
          have b1 := Same.trans b1 e6
          exact w_ret (K := K) (kr := Tn.rt) (e_some nn_I (e_var (K := K) (i := 4) (R := zI) (x := p_case) rfl rfl)) hs hm fun r v G2 H2 hs2 hr2 hq => E1.rt r v _ _ _ hs2 hr2 hq
        · have h_p_cover := (((rK (rT zI))).mono e6 h_p_cover)
          have h_p_truth := (((rK zI)).mono e6 h_p_truth)
          have h_p_bits := (((rF H zI)).mono e6 h_p_bits)
          have h_p_others := (((rK zI)).mono e6 h_p_others)
          have b1 := Same.trans b1 e6
          refine nx_of ?_
          refine (show (_ : TS) _ ([some v_p_cover, some (.int p_at), some v_p_truth, some (.int p_count), some (.int p_case), some v_p_bits, some v_p_others, none] : L2.St) _ from ?_)
          refine nx_of ?_
          refine (show (_ : TS) _ ([some v_p_cover, some (.int p_at), some v_p_truth, some (.int p_count), some (.int p_case), some v_p_bits, some v_p_others, none] : L2.St) _ from ?_)
          exact E1.nx () _ _ _ _ _ b1 ⟨some (.int p_case), some v_p_bits, some v_p_others, rfl, rfl⟩ (Same.refl _) hs hm.out
      · have h_p_cover := (((rK (rT zI))).mono e3 h_p_cover)
        have h_p_truth := (((rK zI)).mono e3 h_p_truth)
        have h_p_bits := (((rF H zI)).mono e3 h_p_bits)
        have b1 := Same.trans b1 e3
        refine nx_of ?_
        refine (show (_ : TS) _ ([some v_p_cover, some (.int p_at), some v_p_truth, some (.int p_count), some (.int p_case), some v_p_bits, d_6, none] : L2.St) _ from ?_)
        exact E1.nx () _ _ _ _ _ b1 ⟨some (.int p_case), some v_p_bits, d_6, rfl, rfl⟩ (Same.refl _) hs hm.out
    · obtain ⟨d_4, d_5, d_6, rfl, rfl⟩ := w_
      have h_p_cover := (((rK (rT zI))).mono e1 h_p_cover)
      have h_p_truth := (((rK zI)).mono e1 h_p_truth)
      refine (show (_ : TS) _ ([some v_p_cover, some (.int p_at), some v_p_truth, some (.int p_count), d_4, d_5, d_6, none] : L2.St) _ from ?_)
      try dsimp only at hm
      exact w_ret0 (K := K) (e_nonO (R := zI)) hs hm fun r v G2 H2 hs2 hr2 hq => hq v G2 H2 hs2.fin hr2

theorem ok_law_same {P : Program} {w : World} {K : PySem.W.Frag} {mg : Str → Option Value} {base : Heap} {cl : Nat → Addr} {fa : Addr} {fd : FuncData} (F : Fun K "_law_same" "_law_same" s_law_same fa fd) (T : Txt K mg cl) (C_law_is_integer : Cal P w K mg base "_law_is_integer" 1 ["actual"] (spP K cl (rs1 (rO zI)) rB (fun a => m_law_is_integer a))) :
    FnOk P w K mg base (L2.CX P w) 2 fa fd ["actual", "expected"] (spP K cl (rsC (rO zI) (rs1 (rO zI))) rB (fun a => m_law_same (a.1) (a.2))) := by
  refine F.okX sc_law_same (fun vs H Q E h => ?_) (fun cdv A outer s H vs Q E hr h => ?_)
  · obtain ⟨G, a, _, hS, _⟩ := h
    exact (lnC ln1) _ _ _ _ hS
  · obtain ⟨G, ⟨p_actual, p_expected⟩, hg, hS, hm⟩ := h
    obtain ⟨v_p_actual, _, rfl, h_p_actual, v_p_expected, rfl, h_p_expected⟩ := hS
    have tk : Takes (cxOf (L2.CX P w) P w K mg base N_law_same "_law_same" (defScope s_law_same) fa cdv A outer s H E) (fun cls d _ H => E cls d H) := takes_of rfl rfl rfl rfl
    refine ⟨_, (pss_cons (ps_if (pt_cmpR op_isN (pv 1) pe_non (nomark _)) (pss_cons (ps_ret (pe_cmpR op_isN (pv 0) pe_non (nomark _)))
     pss_nil) pss_nil)
     (pss_cons (ps_ret (pe_and (pe_call (E := E) C_law_is_integer.ok (hr.mono (by decide)) rfl C_law_is_integer.mgx C_law_is_integer.kp C_law_is_integer.bd .nil (passes_call tk (fun _ _ _ _ h => h)) (pa_cons (pv 0) pa_nil)) (pe_one (pe_cmpR op_eq (pv 0) (pv 1) (nomark _)))))
     pss_nil)), ?_⟩
    have hs : Hs ⟨H, G, E, cl⟩ G [] H := Hs.start hg
    have hm := Wp.ofSp (G0 := G) hm
    try dsimp only at hm
    unfold m_law_same at hm
    refine (show (_ : TS) _ ([some v_p_actual, some v_p_expected] : L2.St) _ from ?_)
    refine w_if (t_test (K := K) (e_isN (e_var (K := K) (i := 1) (R := (rO zI)) (x := p_expected) rfl h_p_expected))) hs hm (fun G1 H1 e1 hs hm => ?_) (fun G1 H1 e1 hs hm => ?_)
    · have h_p_actual := (((rO zI)).mono e1 h_p_actual)
      have h_p_expected := (((rO zI)).mono e1 h_p_expected)
      exact w_ret0 (K := K) (e_isN (e_var (K := K) (i := 0) (R := (rO zI)) (x := p_actual) rfl h_p_actual)) hs hm fun r v G2 H2 hs2 hr2 hq => hq v G2 H2 hs2.fin hr2
    · have h_p_actual := (((rO zI)).mono e1 h_p_actual)
      have h_p_expected := (((rO zI)).mono e1 h_p_expected)
      refine nx_of ?_
      refine (show (_ : TS) _ ([some v_p_actual, some v_p_expected] : L2.St) _ from ?_)
      exact w_ret0 (K := K) (e_and (e_call (fm := ⟨H, G, E, cl⟩) (a_one (e_var (K := K) (i := 0) (R := (rO zI)) (x := p_actual) rfl h_p_actual))) (e_eq srOI (e_var (K := K) (i := 0) (R := (rO zI)) (x := p_actual) rfl h_p_actual) (e_var (K := K) (i := 1) (R := (rO zI)) (x := p_expected) rfl h_p_expected))) hs hm fun r v G2 H2 hs2 hr2 hq => hq v G2 H2 hs2.fin hr2

theorem ok_law_right_product {P : Program} {w : World} {K : PySem.W.Frag} {mg : Str → Option Value} {base : Heap} {cl : Nat → Addr} {fa : Addr} {fd : FuncData} (F : Fun K "_law_right_product" "_law_right_product" s_law_right_product fa fd) (T : Txt K mg cl) {C : Addr} (TD : DFacts K C) (C_law_inside : Cal P w K mg base "_law_inside" 2 ["product", "truth"] (spP K cl (rsC (rT zI) (rs1 (rK zI))) rB (fun a => m_law_inside (a.1) (a.2)))) (C_lies_within : Cal P w K mg base "lies_within" 18 ["diagrams", "product", "high"] (spX K cl (ObD K C) (fun v0 => (rsV v0 (rsC (rT zI) (rs1 zI)))) rB (fun s a => x_lies_within s (a.1) (a.2)))) (C_law_beyond : Cal P w K mg base "_law_beyond" 2 ["product", "place", "truth"] (spP K cl (rsC (rT zI) (rsC zI (rs1 (rK zI)))) (rO zI) (fun a => m_law_beyond (a.1) (a.2.1) (a.2.2)))) (C_law_same : Cal P w K mg base "_law_same" 2 ["actual", "expected"] (spP K cl (rsC (rO zI) (rs1 (rO zI))) rB (fun a => m_law_same (a.1) (a.2)))) (C_beyond_case : Cal P w K mg base "beyond_case" 18 ["diagrams", "product", "place", "high"] (spX K cl (ObD K C) (fun v0 => (rsV v0 (rsC (rT zI) (rsC zI (rs1 zI))))) (rO zI) (fun s a => x_beyond_case s (a.1) (a.2.1) (a.2.2)))) (C_is_prime : Cal P w K mg base "is_prime" 19 ["diagrams", "product", "high"] (spX K cl (ObD K C) (fun v0 => (rsV v0 (rsC (rT zI) (rs1 zI)))) rB (fun s a => x_is_prime s (a.1) (a.2)))) :
    FnOk P w K mg base (L2.CX P w) 20 fa fd ["diagrams", "product", "high", "truth"] (spX K cl (ObD K C) (fun v0 => (rsV v0 (rsC (rT zI) (rsC zI (rs1 (rK zI)))))) rB (fun s a => x_law_right_product s (a.1) (a.2.1) (a.2.2))) := by
  refine F.okX sc_law_right_product (fun vs H Q E h => ?_) (fun cdv A outer s H vs Q E hr h => ?_)
  · obtain ⟨F1, G, O, d, v0, a, _, _, hS, _⟩ := h
    exact (lnV (lnC (lnC ln1))) _ _ _ _ hS
  · obtain ⟨F1, G, O_p_diagrams, p_diagrams, v_p_diagrams, ⟨p_product, p_high, p_truth⟩, hs, h_p_diagrams, hS, hm⟩ := h
    obtain ⟨_, rfl, ⟨v_p_product, _, rfl, h_p_product, ⟨v_p_high, _, rfl, h_p_high, ⟨v_p_truth, rfl, h_p_truth⟩⟩⟩⟩ := hS
    cases (show v_p_high = V.int p_high from h_p_high)
    have tk : Takes (cxOf (L2.CX P w) P w K mg base N_law_right_product "_law_right_product" (defScope s_law_right_product) fa cdv A outer s H E) (fun cls d _ H => E cls d H) := takes_of rfl rfl rfl rfl
    refine ⟨_, (pss_cons (ps_asg (pe_call (E := E) C_law_inside.ok (hr.mono (by decide)) rfl C_law_inside.mgx C_law_inside.kp C_law_inside.bd .nil (passes_call tk (fun _ _ _ _ h => h)) (pa_cons (pv 1) (pa_cons (pv 3) pa_nil))) (pg_name (i := 4) sc_law_right_product.nd rfl (by first | exact Or.inl rfl | exact Or.inr rfl)))
     (pss_cons (ps_asg (pe_call (E := E) C_lies_within.ok (hr.mono (by decide)) rfl C_lies_within.mgx C_lies_within.kp C_lies_within.bd .nil (passes_call tk (fun _ _ _ _ h => h)) (pa_cons (pv 0) (pa_cons (pv 1) (pa_cons (pv 2) pa_nil)))) (pg_name (i := 5) sc_law_right_product.nd rfl (by first | exact Or.inl rfl | exact Or.inr rfl)))
     (pss_cons (ps_if (PW.pt (pw_or (pt_not (pt_val (pe_callB (r := rIsi K) call_isi (by rfl) T.n_isinstance b_isinstance (pa_cons (pv 5) (pa_cons (pe_bltn (v := .ty "bool") (by rfl) T.n_bool b_bool rfl) pa_nil))))) (pw_or1 (pt_cmpR op_ne (pv 5) (pv 4) (nomark _))))) (pss_cons (ps_ret pe_bl)
     pss_nil) pss_nil)
     (pss_cons (ps_set (i := 6) sc_law_right_product.nd rfl (by first | exact Or.inl rfl | exact Or.inr rfl) (pv 4))
     (pss_cons (ps_for (passes_of rfl) rfl (pi_range1 rfl T.n_range (pa_cons (pe_callB (r := Mw.rLen K) call_len (by rfl) T.n_len b_len (pa_cons (pv 1) pa_nil)) pa_nil)) (pg_name (i := 7) sc_law_right_product.nd rfl (by first | exact Or.inl rfl | exact Or.inr rfl)) (pss_cons (ps_asg (pe_call (E := E) C_law_beyond.ok (hr.mono (by decide)) rfl C_law_beyond.mgx C_law_beyond.kp C_law_beyond.bd .nil (passes_call tk (fun _ _ _ _ h => h)) (pa_cons (pv 1) (pa_cons (pv 7) (pa_cons (pv 3) pa_nil)))) (pg_name (i := 8) sc_law_right_product.nd rfl (by first | exact Or.inl rfl | exact Or.inr rfl)))
     (pss_cons (ps_if (pt_not (pt_val (pe_call (E := E) C_law_same.ok (hr.mono (by decide)) rfl C_law_same.mgx C_law_same.kp C_law_same.bd .nil (passes_call tk (fun _ _ _ _ h => h)) (pa_cons (pe_call (E := E) C_beyond_case.ok (hr.mono (by decide)) rfl C_beyond_case.mgx C_beyond_case.kp C_beyond_case.bd .nil (passes_call tk (fun _ _ _ _ h => h)) (pa_cons (pv 0) (pa_cons (pv 1) (pa_cons (pv 7) (pa_cons (pv 2) pa_nil))))) (pa_cons (pv 8) pa_nil))))) (pss_cons (ps_ret pe_bl)
     pss_nil) pss_nil)
     (pss_cons (ps_if (PW.pt (pw_and (pt_cmpR op_ne (pe_ix (r := rIxT K) ix_tup (pv 1) (pv 7) (fun _ _ => rfl)) pe_int (nomark _)) (pw_and1 (pt_cmpR op_isN (pv 8) pe_non (nomark _))))) (pss_cons (ps_set (i := 6) sc_law_right_product.nd rfl (by first | exact Or.inl rfl | exact Or.inr rfl) pe_bl)
     pss_nil) pss_nil)
     pss_nil))))
     (pss_cons (ps_asg (pe_call (E := E) C_is_prime.ok (hr.mono (by decide)) rfl C_is_prime.mgx C_is_prime.kp C_is_prime.bd .nil (passes_call tk (fun _ _ _ _ h => h)) (pa_cons (pv 0) (pa_cons (pv 1) (pa_cons (pv 2) pa_nil)))) (pg_name (i := 5) sc_law_right_product.nd rfl (by first | exact Or.inl rfl | exact Or.inr rfl)))
     (pss_cons (ps_ret (pe_and (pe_callB (r := rIsi K) call_isi (by rfl) T.n_isinstance b_isinstance (pa_cons (pv 5) (pa_cons (pe_bltn (v := .ty "bool") (by rfl) T.n_bool b_bool rfl) pa_nil))) (pe_one (pe_cmpR op_eq (pv 5) (pv 6) (nomark _)))))
     pss_nil))))))), ?_⟩
    have hs := Hs.wrap hs
    have hm : Wp (x_law_right_product p_diagrams p_product p_high p_truth) (QX K ⟨F1, G, E, cl⟩ (ObD K C) v_p_diagrams rB Q) _ := QX.start hm
    try dsimp only at hm
    unfold x_law_right_product at hm
    refine (show (_ : TS) _ ([some v_p_diagrams, some v_p_product, some (.int p_high), some v_p_truth, none, none, none, none, none] : L2.St) _ from ?_)
    refine w_asgY (K := K) (La := []) (Lb := []) (O := O_p_diagrams) (tg_name (i := 4) (R := rB)) (y_pure0 obmD (fun Fz _ => (e_call (fm := ⟨Fz, G, E, cl⟩) (a_cons (e_var (K := K) (i := 1) (R := (rT zI)) (x := p_product) rfl h_p_product) (a_one (e_var (K := K) (i := 3) (R := (rK zI)) (x := p_truth) rfl h_p_truth)))))) hs h_p_diagrams hx_fn hm (fun p_inside p_diagrams vv1 G1 O_p_diagrams H1 e1 hs hd1 hv1 hm => ?_)
    try dsimp only at hm
    obtain ⟨v_p_inside, rfl, h_p_inside⟩ := hv1
    cases (show v_p_inside = V.bl p_inside from h_p_inside)
    have h_p_product := (((rT zI)).mono e1 h_p_product)
    have h_p_truth := (((rK zI)).mono e1 h_p_truth)
    have h_p_diagrams := hd1
    refine (show (_ : TS) _ ([some v_p_diagrams, some v_p_product, some (.int p_high), some v_p_truth, some (.bl p_inside), none, none, none, none] : L2.St) _ from ?_)
    refine w_asgY (K := K) (La := []) (Lb := []) (O := O_p_diagrams) (tg_name (i := 5) (R := rB)) (y_call (fm := ⟨F1, G, E, cl⟩) (S := fun v0 => (rsV v0 (rsC (rT zI) (rs1 zI)))) (h := fun s a => x_lies_within s (a.1) (a.2)) (yA_obj rfl (yA_cons (y_pure0 obmD (fun Fz _ => (e_var (K := K) (i := 1) (R := (rT zI)) (x := p_product) rfl h_p_product))) (yA_one (y_pure0 obmD (fun Fz _ => (e_var (K := K) (i := 2) (R := zI) (x := p_high) rfl rfl))))))) hs h_p_diagrams hx_fn hm (fun p_told p_diagrams vv2 G2 O_p_diagrams H2 e2 hs hd2 hv2 hm => ?_)
    try dsimp only at hm
    obtain ⟨v_p_told, rfl, h_p_told⟩ := hv2
    cases (show v_p_told = V.bl p_told from h_p_told)
    have h_p_product := (((rT zI)).mono e2 h_p_product)
    have h_p_truth := (((rK zI)).mono e2 h_p_truth)
    have h_p_diagrams := hd2
    refine (show (_ : TS) _ ([some v_p_diagrams, some v_p_product, some (.int p_high), some v_p_truth, some (.bl p_inside), some (.bl p_told), none, none, none] : L2.St) _ from ?_)
    refine w_if (t_or (t_not (t_val (K := K) (e_isi (g := fun _ => true) ty_B (fun _ => by decide +kernel) (e_var (K := K) (i := 5) (R := rB) (x := p_told) rfl rfl)))) (t_test (K := K) (e_ne srB (e_var (K := K) (i := 5) (R := rB) (x := p_told) rfl rfl) (e_var (K := K) (i := 4) (R := rB) (x := p_inside) rfl rfl)))) hs hm (fun G3 H3 e3 hs hm => ?_) (fun G3 H3 e3 hs hm => ?_)
    · have h_p_diagrams := (obD_mono _ _ _ _ _ e3 h_p_diagrams)
      have h_p_product := (((rT zI)).mono e3 h_p_product)
      have h_p_truth := (((rK zI)).mono e3 h_p_truth)
      exact w_retY (K := K) (La := []) (Lb := []) (O := O_p_diagrams) (kr := fun r d => (Xr.ok r, d)) (y_pure0 obmD (fun Fz _ => e_bl)) hs h_p_diagrams hx_fn hm fun x d v G2 O2 H2 e2 hs2 ob2 hr2 hq => QX.ret hq hs2 ob2 hr2
    · have h_p_diagrams := (obD_mono _ _ _ _ _ e3 h_p_diagrams)
      have h_p_product := (((rT zI)).mono e3 h_p_product)
      have h_p_truth := (((rK zI)).mono e3 h_p_truth)
      refine nx_of ?_
      refine (show (_ : TS) _ ([some v_p_diagrams, some v_p_product, some (.int p_high), some v_p_truth, some (.bl p_inside), some (.bl p_told), none, none, none] : L2.St) _ from ?_)
      refine w_asg (K := K) (tg_name (i := 6) (R := rB)) (e_var (K := K) (i := 4) (R := rB) (x := p_inside) rfl rfl) hs hm (fun p_prime vv4 G4 H4 e4 hs hv4 hm => ?_)
      obtain ⟨v_p_prime, rfl, h_p_prime⟩ := hv4
      cases (show v_p_prime = V.bl p_prime from h_p_prime)
      have h_p_diagrams := (obD_mono _ _ _ _ _ e4 h_p_diagrams)
      have h_p_product := (((rT zI)).mono e4 h_p_product)
      have h_p_truth := (((rK zI)).mono e4 h_p_truth)
      refine (show (_ : TS) _ ([some v_p_diagrams, some v_p_product, some (.int p_high), some v_p_truth, some (.bl p_inside), some (.bl p_told), some (.bl p_prime), none, none] : L2.St) _ from ?_)
      refine w_forBY (K := K) (fun (s : Bool × Sd) (σ : L2.St) (G : Hp) (O : Own) => match s with | (p_prime, p_diagrams) => ∃ (O_p_diagrams : Own) (d_7 : Option V) (d_8 : Option V), σ = [some v_p_diagrams, some v_p_product, some (.int p_high), some v_p_truth, some (.bl p_inside), some (.bl p_told), some (.bl p_prime), d_7, d_8] ∧ O = [] ++ (O_p_diagrams ++ []) ∧ (ObD K C) p_diagrams v_p_diagrams G O_p_diagrams) (RTX K (ObD K C) v_p_diagrams rB) (XPX ⟨F1, G, E, cl⟩ (ObD K C) v_p_diagrams) (i_rng1 (e_len sq_T (e_var (K := K) (i := 1) (R := (rT zI)) (x := p_product) rfl h_p_product))) (fun _ _ _ _ _ _ h => nomatch h) (tg_name (i := 7) (R := zI)) hs hm ⟨O_p_diagrams, none, none, rfl, rfl, h_p_diagrams⟩ rtx_fn xpx_fn (fun p_place s_ σ_ G1_5 G5 O_ H5 vv5 D5 Qb5 e5 w_ e15 hs hv5 E5 hm => ?_) (fun s_ σ_ G1_5 G5 O_ H5 e5 w_ e15 hs hm => ?_)
      · obtain ⟨p_prime, p_diagrams⟩ := s_
        obtain ⟨O_p_diagrams, d_7, d_8, rfl, rfl, h_p_diagrams⟩ := w_
        have h_p_product := (((rT zI)).mono e5 h_p_product)
        have h_p_truth := (((rK zI)).mono e5 h_p_truth)
        have h_p_diagrams := (obD_mono _ _ _ _ _ e15 h_p_diagrams)
        obtain ⟨v_p_place, rfl, h_p_place⟩ := hv5
        cases (show v_p_place = V.int p_place from h_p_place)
        have b5 := Same.refl G5
        refine (show (_ : TS) _ ([some v_p_diagrams, some v_p_product, some (.int p_high), some v_p_truth, some (.bl p_inside), some (.bl p_told), some (.bl p_prime), some (.int p_place), d_8] : L2.St) _ from ?_)
        unfold x_law_right_product_b11 at hm
        try dsimp only at hm
        refine w_asgY (K := K) (La := []) (Lb := []) (O := O_p_diagrams) (tg_name (i := 8) (R := (rO zI))) (y_pure0 obmD (fun Fz _ => (e_call (fm := ⟨Fz, G, E, cl⟩) (a_cons (e_var (K := K) (i := 1) (R := (rT zI)) (x := p_product) rfl h_p_product) (a_cons (e_var (K := K) (i := 7) (R := zI) (x := p_place) rfl rfl) (a_one (e_var (K := K) (i := 3) (R := (rK zI)) (x := p_truth) rfl h_p_truth))))))) hs h_p_diagrams (hx_loop E5) hm (fun p_due p_diagrams vv6 G6 O_p_diagrams H6 e6 hs hd6 hv6 hm => ?_)
        try dsimp only at hm
        obtain ⟨v_p_due, rfl, h_p_due⟩ := hv6
        have h_p_product := (((rT zI)).mono e6 h_p_product)
        have h_p_truth := (((rK zI)).mono e6 h_p_truth)
        have h_p_diagrams := hd6
        have b5 := Same.trans b5 e6
        refine (show (_ : TS) _ ([some v_p_diagrams, some v_p_product, some (.int p_high), some v_p_truth, some (.bl p_inside), some (.bl p_told), some (.bl p_prime), some (.int p_place), some v_p_due] : L2.St) _ from ?_)
        refine w_ifY (La := []) (Lb := []) (O := O_p_diagrams) (yt_not (yt_val (K := K) (y_callP (fm := ⟨F1, G, E, cl⟩) (S := (rsC (rO zI) (rs1 (rO zI)))) (h := fun a => m_law_same (a.1) (a.2)) obmD (yA_cons (y_call (fm := ⟨F1, G, E, cl⟩) (S := fun v0 => (rsV v0 (rsC (rT zI) (rsC zI (rs1 zI))))) (h := fun s a => x_beyond_case s (a.1) (a.2.1) (a.2.2)) (yA_obj rfl (yA_cons (y_pure0 obmD (fun Fz _ => (e_var (K := K) (i := 1) (R := (rT zI)) (x := p_product) rfl h_p_product))) (yA_cons (y_pure0 obmD (fun Fz _ => (e_var (K := K) (i := 7) (R := zI) (x := p_place) rfl rfl))) (yA_one (y_pure0 obmD (fun Fz _ => (e_var (K := K) (i := 2) (R := zI) (x := p_high) rfl rfl)))))))) (yA_one (y_pure0 obmD (fun Fz _ => (e_var (K := K) (i := 8) (R := (rO zI)) (x := p_due) rfl h_p_due)))))))) hs h_p_diagrams (hx_loop E5) hm (fun p_diagrams G7 O_p_diagrams H7 e7 hs hd7 hm => ?_) (fun p_diagrams G7 O_p_diagrams H7 e7 hs hd7 hm => ?_)
        · have h_p_product := (((rT zI)).mono e7 h_p_product)
          have h_p_truth := (((rK zI)).mono e7 h_p_truth)
          have h_p_due := (((rO zI)).mono e7 h_p_due)
          have h_p_diagrams := hd7
          have b5 := Same.trans b5 e7
          exact w_retY (K := K) (La := []) (Lb := []) (O := O_p_diagrams) (kr := fun r d => Tn.rt (Xr.ok r, d)) (y_pure0 obmD (fun Fz _ => e_bl)) hs h_p_diagrams (hx_loop E5) hm fun x d v G2 O2 H2 e2 hs2 ob2 hr2 hq => E5.rt (Xr.ok x, d) v _ _ _ (Hs.only hs2) ⟨x, rfl, ob2, hr2⟩ hq
        · have h_p_product := (((rT zI)).mono e7 h_p_product)
          have h_p_truth := (((rK zI)).mono e7 h_p_truth)
          have h_p_due := (((rO zI)).mono e7 h_p_due)
          have h_p_diagrams := hd7
          have b5 := Same.trans b5 e7
          refine nx_of ?_
          refine (show (_ : TS) _ ([some v_p_diagrams, some v_p_product, some (.int p_high), some v_p_truth, some (.bl p_inside), some (.bl p_told), some (.bl p_prime), some (.int p_place), some v_p_due] : L2.St) _ from ?_)
          refine w_if (t_and (t_test (K := K) (e_ne srI (e_ixT (e_var (K := K) (i := 1) (R := (rT zI)) (x := p_product) rfl h_p_product) (e_var (K := K) (i := 7) (R := zI) (x := p_place) rfl rfl)) e_int)) (t_test (K := K) (e_isN (e_var (K := K) (i := 8) (R := (rO zI)) (x := p_due) rfl h_p_due)))) hs hm (fun G8 H8 e8 hs hm => ?_) (fun G8 H8 e8 hs hm => ?_)
          · have h_p_diagrams := (obD_mono _ _ _ _ _ e8 h_p_diagrams)
            have h_p_product := (((rT zI)).mono e8 h_p_product)
            have h_p_truth := (((rK zI)).mono e8 h_p_truth)
            have h_p_due := (((rO zI)).mono e8 h_p_due)
            have b5 := Same.trans b5 e8
            refine w_asg (K := K) (tg_name (i := 6) (R := rB)) e_bl hs hm (fun p_prime vv9 G9 H9 e9 hs hv9 hm => ?_)
            obtain ⟨v_p_prime, rfl, h_p_prime⟩ := hv9
            cases (show v_p_prime = V.bl p_prime from h_p_prime)
            have h_p_diagrams := (obD_mono _ _ _ _ _ e9 h_p_diagrams)
            have h_p_product := (((rT zI)).mono e9 h_p_product)
            have h_p_truth := (((rK zI)).mono e9 h_p_truth)
            have h_p_due := (((rO zI)).mono e9 h_p_due)
            have b5 := Same.trans b5 e9
            refine (show (_ : TS) _ ([some v_p_diagrams, some v_p_product, some (.int p_high), some v_p_truth, some (.bl p_inside), some (.bl p_told), some (.bl p_prime), some (.int p_place), some v_p_due] : L2.St) _ from ?_)
            refine nx_of ?_
            refine (show (_ : TS) _ ([some v_p_diagrams, some v_p_product, some (.int p_high), some v_p_truth, some (.bl p_inside), some (.bl p_told), some (.bl p_prime), some (.int p_place), some v_p_due] : L2.St) _ from ?_)
            exact E5.nx (p_prime, p_diagrams) _ _ _ _ _ b5 ⟨O_p_diagrams, some (.int p_place), some v_p_due, rfl, rfl, h_p_diagrams⟩ (Same.refl _) hs hm.out
          · have h_p_diagrams := (obD_mono _ _ _ _ _ e8 h_p_diagrams)
            have h_p_product := (((rT zI)).mono e8 h_p_product)
            have h_p_truth := (((rK zI)).mono e8 h_p_truth)
            have h_p_due := (((rO zI)).mono e8 h_p_due)
            have b5 := Same.trans b5 e8
            refine nx_of ?_
            refine (show (_ : TS) _ ([some v_p_diagrams, some v_p_product, some (.int p_high), some v_p_truth, some (.bl p_inside), some (.bl p_told), some (.bl p_prime), some (.int p_place), some v_p_due] : L2.St) _ from ?_)
            exact E5.nx (p_prime, p_diagrams) _ _ _ _ _ b5 ⟨O_p_diagrams, some (.int p_place), some v_p_due, rfl, rfl, h_p_diagrams⟩ (Same.refl _) hs hm.out
      · obtain ⟨p_prime, p_diagrams⟩ := s_
        obtain ⟨O_p_diagrams, d_7, d_8, rfl, rfl, h_p_diagrams⟩ := w_
        have h_p_product := (((rT zI)).mono e5 h_p_product)
        have h_p_truth := (((rK zI)).mono e5 h_p_truth)
        have h_p_diagrams := (obD_mono _ _ _ _ _ e15 h_p_diagrams)
        refine (show (_ : TS) _ ([some v_p_diagrams, some v_p_product, some (.int p_high), some v_p_truth, some (.bl p_inside), some (.bl p_told), some (.bl p_prime), d_7, d_8] : L2.St) _ from ?_)
        try dsimp only at hm
        refine w_asgY (K := K) (La := []) (Lb := []) (O := O_p_diagrams) (tg_name (i := 5) (R := rB)) (y_call (fm := ⟨F1, G, E, cl⟩) (S := fun v0 => (rsV v0 (rsC (rT zI) (rs1 zI)))) (h := fun s a => x_is_prime s (a.1) (a.2)) (yA_obj rfl (yA_cons (y_pure0 obmD (fun Fz _ => (e_var (K := K) (i := 1) (R := (rT zI)) (x := p_product) rfl h_p_product))) (yA_one (y_pure0 obmD (fun Fz _ => (e_var (K := K) (i := 2) (R := zI) (x := p_high) rfl rfl))))))) hs h_p_diagrams hx_fn hm (fun p_told p_diagrams vv10 G10 O_p_diagrams H10 e10 hs hd10 hv10 hm => ?_)
        try dsimp only at hm
        obtain ⟨v_p_told, rfl, h_p_told⟩ := hv10
        cases (show v_p_told = V.bl p_told from h_p_told)
        have h_p_product := (((rT zI)).mono e10 h_p_product)
        have h_p_truth := (((rK zI)).mono e10 h_p_truth)
        have h_p_diagrams := hd10
        refine (show (_ : TS) _ ([some v_p_diagrams, some v_p_product, some (.int p_high), some v_p_truth, some (.bl p_inside), some (.bl p_told), some (.bl p_prime), d_7, d_8] : L2.St) _ from ?_)
        exact w_retY (K := K) (La := []) (Lb := []) (O := O_p_diagrams) (kr := fun r d => (Xr.ok r, d)) (y_pure0 obmD (fun Fz _ => (e_and (e_isi (g := fun _ => true) ty_B (fun _ => by decide +kernel) (e_var (K := K) (i := 5) (R := rB) (x := p_told) rfl rfl)) (e_eq srB (e_var (K := K) (i := 5) (R := rB) (x := p_told) rfl rfl) (e_var (K := K) (i := 6) (R := rB) (x := p_prime) rfl rfl))))) hs h_p_diagrams hx_fn hm fun x d v G2 O2 H2 e2 hs2 ob2 hr2 hq => QX.ret hq hs2 ob2 hr2

theorem ok_law_refused {P : Program} {w : World} {K : PySem.W.Frag} {mg : Str → Option Value} {base : Heap} {cl : Nat → Addr} {fa : Addr} {fd : FuncData} (F : Fun K "_law_refused" "_law_refused" s_law_refused fa fd) (T : Txt K mg cl) {C : Addr} (TD : DFacts K C) (C_lies_within : Cal P w K mg base "lies_within" 18 ["diagrams", "product", "high"] (spX K cl (ObD K C) (fun v0 => (rsV v0 (rsC (rT zI) (rs1 zI)))) rB (fun s a => x_lies_within s (a.1) (a.2)))) (C_is_prime : Cal P w K mg base "is_prime" 19 ["diagrams", "product", "high"] (spX K cl (ObD K C) (fun v0 => (rsV v0 (rsC (rT zI) (rs1 zI)))) rB (fun s a => x_is_prime s (a.1) (a.2)))) (C_beyond_case : Cal P w K mg base "beyond_case" 18 ["diagrams", "product", "place", "high"] (spX K cl (ObD K C) (fun v0 => (rsV v0 (rsC (rT zI) (rsC zI (rs1 zI))))) (rO zI) (fun s a => x_beyond_case s (a.1) (a.2.1) (a.2.2)))) (C_own_case : Cal P w K mg base "own_case" 19 ["diagrams", "cover", "at", "low"] (spX K cl (ObD K C) (fun v0 => (rsV v0 (rsC (rK (rT zI)) (rsC zI (rs1 zI))))) (rO zI) (fun s a => x_own_case s (a.1) (a.2.1) (a.2.2)))) :
    FnOk P w K mg base (L2.CX P w) 20 fa fd ["which", "diagrams", "products", "number", "place"] (spX K cl (ObD K C) (fun v0 => (rsC zI (rsV v0 (rsC (rK (rT zI)) (rsC zI (rs1 zI)))))) rB (fun s a => x_law_refused (a.1) s (a.2.1) (a.2.2.1) (a.2.2.2))) := by
  refine F.okX sc_law_refused (fun vs H Q E h => ?_) (fun cdv A outer s H vs Q E hr h => ?_)
  · obtain ⟨F1, G, O, d, v0, a, _, _, hS, _⟩ := h
    exact (lnC (lnV (lnC (lnC ln1)))) _ _ _ _ hS
  · obtain ⟨F1, G, O_p_diagrams, p_diagrams, v_p_diagrams, ⟨p_which, p_products, p_number, p_place⟩, hs, h_p_diagrams, hS, hm⟩ := h
    obtain ⟨v_p_which, _, rfl, h_p_which, ⟨_, rfl, ⟨v_p_products, _, rfl, h_p_products, ⟨v_p_number, _, rfl, h_p_number, ⟨v_p_place, rfl, h_p_place⟩⟩⟩⟩⟩ := hS
    cases (show v_p_which = V.int p_which from h_p_which)
    cases (show v_p_number = V.int p_number from h_p_number)
    cases (show v_p_place = V.int p_place from h_p_place)
    have tk : Takes (cxOf (L2.CX P w) P w K mg base N_law_refused "_law_refused" (defScope s_law_refused) fa cdv A outer s H E) (fun cls d _ H => E cls d H) := takes_of rfl rfl rfl rfl
    refine ⟨_, (pss_cons (show PS _ _ (tTry _ K _ 5 _ _) from ps_try_as (i := 5) rfl rfl sc_law_refused.nd rfl rfl (c := .ref (cl 2)) ⟨rfl, by decide, .inl T.g_2⟩ tk (fun W1 pn xe tkW1 hp => (pss_cons (ps_if (pt_cmpR op_eq (pv 0) pe_int (nomark _)) (pss_cons (ps_expr (pe_callS (E := WE W1) C_lies_within.ok (hr.mono (by decide)) rfl C_lies_within.mgx C_lies_within.kp C_lies_within.bd (fun σ => passAt tkW1 σ) (pa_cons (pv 1) (pa_cons (pe_ix (r := rIxL K) ix_list (pv 2) pe_int (fun _ _ => rfl)) (pa_cons (pv 3) pa_nil)))))
     pss_nil) (pss_cons (ps_if (pt_cmpR op_eq (pv 0) pe_int (nomark _)) (pss_cons (ps_expr (pe_callS (E := WE W1) C_is_prime.ok (hr.mono (by decide)) rfl C_is_prime.mgx C_is_prime.kp C_is_prime.bd (fun σ => passAt tkW1 σ) (pa_cons (pv 1) (pa_cons (pe_ix (r := rIxL K) ix_list (pv 2) pe_int (fun _ _ => rfl)) (pa_cons (pv 3) pa_nil)))))
     pss_nil) (pss_cons (ps_if (pt_cmpR op_eq (pv 0) pe_int (nomark _)) (pss_cons (ps_expr (pe_callS (E := WE W1) C_beyond_case.ok (hr.mono (by decide)) rfl C_beyond_case.mgx C_beyond_case.kp C_beyond_case.bd (fun σ => passAt tkW1 σ) (pa_cons (pv 1) (pa_cons (pe_ix (r := rIxL K) ix_list (pv 2) pe_int (fun _ _ => rfl)) (pa_cons (pv 4) (pa_cons (pv 3) pa_nil))))))
     pss_nil) (pss_cons (ps_expr (pe_callS (E := WE W1) C_own_case.ok (hr.mono (by decide)) rfl C_own_case.mgx C_own_case.kp C_own_case.bd (fun σ => passAt tkW1 σ) (pa_cons (pv 1) (pa_cons (pv 2) (pa_cons (pv 4) (pa_cons (pv 3) pa_nil))))))
     pss_nil))
     pss_nil))
     pss_nil))
     pss_nil)) (tSuG_ok (cl := cl) (n := 2) (fun a1 oe C1 pn hE1 hz1 hf1 => (pss_cons (ps_ret (pe_callB (r := rIsE K C1 a1) (call_isE hE1 hz1 hf1) (by rfl) T.n_isinstance b_isinstance (pa_cons (pv 5) (pa_cons (pe_glob (v := .ref (cl 0)) rfl T.g_0 rfl) pa_nil))))
     pss_nil)) (fun k hk => T.ec k hk)))
     (pss_cons (ps_ret pe_bl)
     pss_nil)), ?_⟩
    have hs := Hs.wrap hs
    have hm : Wp (x_law_refused p_which p_diagrams p_products p_number p_place) (QX K ⟨F1, G, E, cl⟩ (ObD K C) v_p_diagrams rB Q) _ := QX.start hm
    try dsimp only at hm
    unfold x_law_refused at hm
    refine (show (_ : TS) _ ([some (.int p_which), some v_p_diagrams, some v_p_products, some (.int p_number), some (.int p_place), none] : L2.St) _ from ?_)
    refine w_tryY (K := K) (La := []) (Lb := []) (O := O_p_diagrams) hs h_p_diagrams hm (fun k hk => T.ex k hk) (fun k1 a1 p_diagrams G1 O_p_diagrams H1 hk1 e1 hs hd1 hm => ?_) (fun D1 Qb1 W1 nx1 hxt1 hs hm => ?_) (fun p_diagrams G1 O_p_diagrams H1 e1 hs hd1 hm => ?_)
    · have h_p_products := (((rK (rT zI))).mono e1 h_p_products)
      have h_p_diagrams := hd1
      refine (show (_ : TS) _ ([some (.int p_which), some v_p_diagrams, some v_p_products, some (.int p_number), some (.int p_place), some (.ref a1)] : L2.St) _ from ?_)
      try dsimp only at hm
      exact w_retY (K := K) (La := []) (Lb := []) (O := O_p_diagrams) (kr := fun r d => (Xr.ok r, d)) (y_pure0 obmD (fun Fz _ => (e_isE (a := a1) (C := cl k1) rfl (T.kit k1 0 hk1 (by decide))))) hs h_p_diagrams hx_fn hm fun x d v G2 O2 H2 e2 hs2 ob2 hr2 hq => QX.ret hq hs2 ob2 hr2
    · have b1 := Hs.sr hs
      refine w_if (t_test (K := K) (e_eq srI (e_var (K := K) (i := 0) (R := zI) (x := p_which) rfl rfl) e_int)) hs hm (fun G2 H2 e2 hs hm => ?_) (fun G2 H2 e2 hs hm => ?_)
      · have h_p_diagrams := (obD_mono _ _ _ _ _ e2 h_p_diagrams)
        have h_p_products := (((rK (rT zI))).mono e2 h_p_products)
        have b1 := Same.trans b1 e2
        refine w_dropY (K := K) (La := []) (Lb := []) (O := O_p_diagrams) (y_callS (fm := ⟨F1, G, WE W1 [some (.int p_which), some v_p_diagrams, some v_p_products, some (.int p_number), some (.int p_place), none], cl⟩) (S := fun v0 => (rsV v0 (rsC (rT zI) (rs1 zI)))) (h := fun s a => x_lies_within s (a.1) (a.2)) rfl (yA_obj rfl (yA_cons (y_pure0 obmD (fun Fz _ => (e_ixL (e_KL (e_var (K := K) (i := 2) (R := (rK (rT zI))) (x := p_products) rfl h_p_products)) e_int))) (yA_one (y_pure0 obmD (fun Fz _ => (e_var (K := K) (i := 3) (R := zI) (x := p_number) rfl rfl))))))) hs h_p_diagrams (hxt1 _ b1) hm (fun _ p_diagrams G3 O_p_diagrams H3 e3 hs hd3 hm => ?_)
        try dsimp only at hm
        have h_p_products := (((rK (rT zI))).mono e3 h_p_products)
        have h_p_diagrams := hd3
        have b1 := Same.trans b1 e3
        refine nx_of ?_
        refine (show (_ : TS) _ ([some (.int p_which), some v_p_diagrams, some v_p_products, some (.int p_number), some (.int p_place), none] : L2.St) _ from ?_)
        exact nx1 _ _ _ _ b1 (Hs.withE (E' := E) hs) h_p_diagrams hm.out
      · have h_p_diagrams := (obD_mono _ _ _ _ _ e2 h_p_diagrams)
        have h_p_products := (((rK (rT zI))).mono e2 h_p_products)
        have b1 := Same.trans b1 e2
        refine w_if (t_test (K := K) (e_eq srI (e_var (K := K) (i := 0) (R := zI) (x := p_which) rfl rfl) e_int)) hs hm (fun G4 H4 e4 hs hm => ?_) (fun G4 H4 e4 hs hm => ?_)
        · have h_p_diagrams := (obD_mono _ _ _ _ _ e4 h_p_diagrams)
          have h_p_products := (((rK (rT zI))).mono e4 h_p_products)
          have b1 := Same.trans b1 e4
          refine w_dropY (K := K) (La := []) (Lb := []) (O := O_p_diagrams) (y_callS (fm := ⟨F1, G, WE W1 [some (.int p_which), some v_p_diagrams, some v_p_products, some (.int p_number), some (.int p_place), none], cl⟩) (S := fun v0 => (rsV v0 (rsC (rT zI) (rs1 zI)))) (h := fun s a => x_is_prime s (a.1) (a.2)) rfl (yA_obj rfl (yA_cons (y_pure0 obmD (fun Fz _ => (e_ixL (e_KL (e_var (K := K) (i := 2) (R := (rK (rT zI))) (x := p_products) rfl h_p_products)) e_int))) (yA_one (y_pure0 obmD (fun Fz _ => (e_var (K := K) (i := 3) (R := zI) (x := p_number) rfl rfl))))))) hs h_p_diagrams (hxt1 _ b1) hm (fun _ p_diagrams G5 O_p_diagrams H5 e5 hs hd5 hm => ?_)
          try dsimp only at hm
          have h_p_products := (((rK (rT zI))).mono e5 h_p_products)
          have h_p_diagrams := hd5
          have b1 := Same.trans b1 e5
          refine nx_of ?_
          refine (show (_ : TS) _ ([some (.int p_which), some v_p_diagrams, some v_p_products, some (.int p_number), some (.int p_place), none] : L2.St) _ from ?_)
          refine nx_of ?_
          refine (show (_ : TS) _ ([some (.int p_which), some v_p_diagrams, some v_p_products, some (.int p_number), some (.int p_place), none] : L2.St) _ from ?_)
          exact nx1 _ _ _ _ b1 (Hs.withE (E' := E) hs) h_p_diagrams hm.out
        · have h_p_diagrams := (obD_mono _ _ _ _ _ e4 h_p_diagrams)
          have h_p_products := (((rK (rT zI))).mono e4 h_p_products)
          have b1 := Same.trans b1 e4
          refine w_if (t_test (K := K) (e_eq srI (e_var (K := K) (i := 0) (R := zI) (x := p_which) rfl rfl) e_int)) hs hm (fun G6 H6 e6 hs hm => ?_) (fun G6 H6 e6 hs hm => ?_)
          · have h_p_diagrams := (obD_mono _ _ _ _ _ e6 h_p_diagrams)
            have h_p_products := (((rK (rT zI))).mono e6 h_p_products)
            have b1 := Same.trans b1 e6
            refine w_dropY (K := K) (La := []) (Lb := []) (O := O_p_diagrams) (y_callS (fm := ⟨F1, G, WE W1 [some (.int p_which), some v_p_diagrams, some v_p_products, some (.int p_number), some (.int p_place), none], cl⟩) (S := fun v0 => (rsV v0 (rsC (rT zI) (rsC zI (rs1 zI))))) (h := fun s a => x_beyond_case s (a.1) (a.2.1) (a.2.2)) rfl (yA_obj rfl (yA_cons (y_pure0 obmD (fun Fz _ => (e_ixL (e_KL (e_var (K := K) (i := 2) (R := (rK (rT zI))) (x := p_products) rfl h_p_products)) e_int))) (yA_cons (y_pure0 obmD (fun Fz _ => (e_var (K := K) (i := 4) (R := zI) (x := p_place) rfl rfl))) (yA_one (y_pure0 obmD (fun Fz _ => (e_var (K := K) (i := 3) (R := zI) (x := p_number) rfl rfl)))))))) hs h_p_diagrams (hxt1 _ b1) hm (fun _ p_diagrams G7 O_p_diagrams H7 e7 hs hd7 hm => ?_)
            try dsimp only at hm
            have h_p_products := (((rK (rT zI))).mono e7 h_p_products)
            have h_p_diagrams := hd7
            have b1 := Same.trans b1 e7
            refine nx_of ?_
            refine (show (_ : TS) _ ([some (.int p_which), some v_p_diagrams, some v_p_products, some (.int p_number), some (.int p_place), none] : L2.St) _ from ?_)
            refine nx_of ?_
            refine (show (_ : TS) _ ([some (.int p_which), some v_p_diagrams, some v_p_products, some (.int p_number), some (.int p_place), none] : L2.St) _ from ?_)
            refine nx_of ?_
            refine (show (_ : TS) _ ([some (.int p_which), some v_p_diagrams, some v_p_products, some (.int p_number), some (.int p_place), none] : L2.St) _ from ?_)
            exact nx1 _ _ _ _ b1 (Hs.withE (E' := E) hs) h_p_diagrams hm.out
          · have h_p_diagrams := (obD_mono _ _ _ _ _ e6 h_p_diagrams)
            have h_p_products := (((rK (rT zI))).mono e6 h_p_products)
            have b1 := Same.trans b1 e6
            refine w_dropY (K := K) (La := []) (Lb := []) (O := O_p_diagrams) (y_callS (fm := ⟨F1, G, WE W1 [some (.int p_which), some v_p_diagrams, some v_p_products, some (.int p_number), some (.int p_place), none], cl⟩) (S := fun v0 => (rsV v0 (rsC (rK (rT zI)) (rsC zI (rs1 zI))))) (h := fun s a => x_own_case s (a.1) (a.2.1) (a.2.2)) rfl (yA_obj rfl (yA_cons (y_pure0 obmD (fun Fz _ => (e_var (K := K) (i := 2) (R := (rK (rT zI))) (x := p_products) rfl h_p_products))) (yA_cons (y_pure0 obmD (fun Fz _ => (e_var (K := K) (i := 4) (R := zI) (x := p_place) rfl rfl))) (yA_one (y_pure0 obmD (fun Fz _ => (e_var (K := K) (i := 3) (R := zI) (x := p_number) rfl rfl)))))))) hs h_p_diagrams (hxt1 _ b1) hm (fun _ p_diagrams G8 O_p_diagrams H8 e8 hs hd8 hm => ?_)
            try dsimp only at hm
            have h_p_products := (((rK (rT zI))).mono e8 h_p_products)
            have h_p_diagrams := hd8
            have b1 := Same.trans b1 e8
            refine nx_of ?_
            refine (show (_ : TS) _ ([some (.int p_which), some v_p_diagrams, some v_p_products, some (.int p_number), some (.int p_place), none] : L2.St) _ from ?_)
            refine nx_of ?_
            refine (show (_ : TS) _ ([some (.int p_which), some v_p_diagrams, some v_p_products, some (.int p_number), some (.int p_place), none] : L2.St) _ from ?_)
            refine nx_of ?_
            refine (show (_ : TS) _ ([some (.int p_which), some v_p_diagrams, some v_p_products, some (.int p_number), some (.int p_place), none] : L2.St) _ from ?_)
            exact nx1 _ _ _ _ b1 (Hs.withE (E' := E) hs) h_p_diagrams hm.out
    · have h_p_products := (((rK (rT zI))).mono e1 h_p_products)
      have h_p_diagrams := hd1
      refine (show (_ : TS) _ ([some (.int p_which), some v_p_diagrams, some v_p_products, some (.int p_number), some (.int p_place), none] : L2.St) _ from ?_)
      try dsimp only at hm
      exact w_retY (K := K) (La := []) (Lb := []) (O := O_p_diagrams) (kr := fun r d => (Xr.ok r, d)) (y_pure0 obmD (fun Fz _ => e_bl)) hs h_p_diagrams hx_fn hm fun x d v G2 O2 H2 e2 hs2 ob2 hr2 hq => QX.ret hq hs2 ob2 hr2

theorem ok_law_refuses {P : Program} {w : World} {K : PySem.W.Frag} {mg : Str → Option Value} {base : Heap} {cl : Nat → Addr} {fa : Addr} {fd : FuncData} (F : Fun K "_law_refuses" "_law_refuses" s_law_refuses fa fd) (T : Txt K mg cl) {C : Addr} (TD : DFacts K C) (C_D_init : ICal P w K mg base C "Diagrams" 1 ["self", "count"] (spI K cl C (ObD K C) (rs1 zI) (fun a => m_D_init a))) (C_D_size : MCal P w K mg base C "size" 1 ["self"] (spP K cl (rs1 (rDn C)) zI (fun a => m_D_size a))) (C_law_refused : Cal P w K mg base "_law_refused" 20 ["which", "diagrams", "products", "number", "place"] (spX K cl (ObD K C) (fun v0 => (rsC zI (rsV v0 (rsC (rK (rT zI)) (rsC zI (rs1 zI)))))) rB (fun s a => x_law_refused (a.1) s (a.2.1) (a.2.2.1) (a.2.2.2)))) :
    FnOk P w K mg base (L2.CX P w) 21 fa fd ["products", "count", "parts"] (spP K cl (rsC (rK (rT zI)) (rsC zI (rs1 (rK zI)))) rB (fun a => m_law_refuses (a.1) (a.2.1) (a.2.2))) := by
  refine F.okX sc_law_refuses (fun vs H Q E h => ?_) (fun cdv A outer s H vs Q E hr h => ?_)
  · obtain ⟨G, a, _, hS, _⟩ := h
    exact (lnC (lnC ln1)) _ _ _ _ hS
  · obtain ⟨G, ⟨p_products, p_count, p_parts⟩, hg, hS, hm⟩ := h
    obtain ⟨v_p_products, _, rfl, h_p_products, v_p_count, _, rfl, h_p_count, v_p_parts, rfl, h_p_parts⟩ := hS
    cases (show v_p_count = V.int p_count from h_p_count)
    have tk : Takes (cxOf (L2.CX P w) P w K mg base N_law_refuses "_law_refuses" (defScope s_law_refuses) fa cdv A outer s H E) (fun cls d _ H => E cls d H) := takes_of rfl rfl rfl rfl
    refine ⟨_, (pss_cons (ps_for (passes_of rfl) rfl (pi_range1 rfl T.n_range (pa_cons pe_int pa_nil)) (pg_name (i := 3) sc_law_refuses.nd rfl (by first | exact Or.inl rfl | exact Or.inr rfl)) (pss_cons (ps_set (i := 4) sc_law_refuses.nd rfl (by first | exact Or.inl rfl | exact Or.inr rfl) (pe_make (E := E) C_D_init.mkc C_D_init.ok (hr.mono (by decide)) rfl C_D_init.mgC C_D_init.bd .nil (passes_call tk (fun _ _ _ _ h => h)) (pa_cons (pv 1) pa_nil)))
     (pss_cons (ps_set (i := 5) sc_law_refuses.nd rfl (by first | exact Or.inl rfl | exact Or.inr rfl) (pe_ix (r := rIxL K) ix_list (pe_lst (pa_cons (pe_meth0 (E := E) (pv 4) TD.cl C_D_size.me C_D_size.ok (hr.mono (by decide)) C_D_size.bd .nil (passes_call tk (fun _ _ _ _ h => h))) (pa_cons (pe_op op_add (pe_meth0 (E := E) (pv 4) TD.cl C_D_size.me C_D_size.ok (hr.mono (by decide)) C_D_size.bd .nil (passes_call tk (fun _ _ _ _ h => h))) (pe_ix (r := rIxL K) ix_list (pv 2) pe_int (fun _ _ => rfl))) (pa_cons (pe_op op_sub (pe_un un_neg pe_int) (pe_ix (r := rIxL K) ix_list (pv 2) pe_int (fun _ _ => rfl))) pa_nil)))) (pe_ix (r := rIxL K) ix_list (pv 2) pe_int (fun _ _ => rfl)) (fun _ _ => rfl)))
     (pss_cons (ps_if (PW.pt (pw_and (PW.pt (pw_or (pt_cmpR op_gt (pv 1) pe_int (nomark _)) (pw_or1 (pt_cmpR op_ne (pv 3) pe_int (nomark _))))) (pw_and1 (pt_not (pt_val (pe_call (E := E) C_law_refused.ok (hr.mono (by decide)) rfl C_law_refused.mgx C_law_refused.kp C_law_refused.bd .nil (passes_call tk (fun _ _ _ _ h => h)) (pa_cons (pv 3) (pa_cons (pv 4) (pa_cons (pv 0) (pa_cons (pv 5) (pa_cons pe_int pa_nil))))))))))) (pss_cons (ps_ret pe_bl)
     pss_nil) pss_nil)
     pss_nil))))
     (pss_cons (ps_set (i := 4) sc_law_refuses.nd rfl (by first | exact Or.inl rfl | exact Or.inr rfl) (pe_make (E := E) C_D_init.mkc C_D_init.ok (hr.mono (by decide)) rfl C_D_init.mgC C_D_init.bd .nil (passes_call tk (fun _ _ _ _ h => h)) (pa_cons (pv 1) pa_nil)))
     (pss_cons (ps_if (pt_not (pt_val (pe_call (E := E) C_law_refused.ok (hr.mono (by decide)) rfl C_law_refused.mgx C_law_refused.kp C_law_refused.bd .nil (passes_call tk (fun _ _ _ _ h => h)) (pa_cons pe_int (pa_cons (pv 4) (pa_cons (pv 0) (pa_cons pe_int (pa_cons (pe_ix (r := rIxL K) ix_list (pe_lst (pa_cons (pe_op op_add (pv 1) (pe_ix (r := rIxL K) ix_list (pv 2) pe_int (fun _ _ => rfl))) (pa_cons (pe_op op_sub (pe_un un_neg pe_int) (pe_ix (r := rIxL K) ix_list (pv 2) pe_int (fun _ _ => rfl))) pa_nil))) (pe_ix (r := rIxL K) ix_list (pv 2) pe_int (fun _ _ => rfl)) (fun _ _ => rfl)) pa_nil)))))))) (pss_cons (ps_ret pe_bl)
     pss_nil) pss_nil)
     (pss_cons (ps_set (i := 6) sc_law_refuses.nd rfl (by first | exact Or.inl rfl | exact Or.inr rfl) (pe_ix (r := rIxL K) ix_list (pe_lst (pa_cons (pe_op op_add (pe_callB (r := Mw.rLen K) call_len (by rfl) T.n_len b_len (pa_cons (pv 0) pa_nil)) (pe_ix (r := rIxL K) ix_list (pv 2) pe_int (fun _ _ => rfl))) (pa_cons (pe_op op_sub (pe_un un_neg pe_int) (pe_ix (r := rIxL K) ix_list (pv 2) pe_int (fun _ _ => rfl))) pa_nil))) (pe_ix (r := rIxL K) ix_list (pv 2) pe_int (fun _ _ => rfl)) (fun _ _ => rfl)))
     (pss_cons (ps_ret (pe_and (pe_call (E := E) C_law_refused.ok (hr.mono (by decide)) rfl C_law_refused.mgx C_law_refused.kp C_law_refused.bd .nil (passes_call tk (fun _ _ _ _ h => h)) (pa_cons pe_int (pa_cons (pv 4) (pa_cons (pv 0) (pa_cons pe_int (pa_cons (pv 6) pa_nil)))))) (pe_one (pe_call (E := E) C_law_refused.ok (hr.mono (by decide)) rfl C_law_refused.mgx C_law_refused.kp C_law_refused.bd .nil (passes_call tk (fun _ _ _ _ h => h)) (pa_cons pe_int (pa_cons (pv 4) (pa_cons (pe_lst pa_nil) (pa_cons pe_int (pa_cons pe_int pa_nil)))))))))
     pss_nil))))), ?_⟩
    have hs : Hs ⟨H, G, E, cl⟩ G [] H := Hs.start hg
    have hm := Wp.ofSp (G0 := G) hm
    try dsimp only at hm
    unfold m_law_refuses at hm
    refine (show (_ : TS) _ ([some v_p_products, some (.int p_count), some v_p_parts, none, none, none, none] : L2.St) _ from ?_)
    refine w_forB (K := K) (Rr := rB) (fun (_ : Unit) (σ : L2.St) (G : Hp) (O : Own) => ∃ (d_3 : Option V) (d_4 : Option V) (d_5 : Option V), σ = [some v_p_products, some (.int p_count), some v_p_parts, d_3, d_4, d_5, none] ∧ O = []) (i_rng1 e_int) (fun _ _ _ _ _ _ h => nomatch h) (tg_name (i := 3) (R := zI)) hs hm ⟨none, none, none, rfl, rfl⟩ (fun r v G2 O2 H2 hs2 hr2 hq => hq v G2 H2 hs2.fin hr2) (fun p_which s_ σ_ G1_1 G1 O_ H1 vv1 D1 Qb1 e1 w_ e11 hs hv1 E1 hm => ?_) (fun s_ σ_ G1_1 G1 O_ H1 e1 w_ e11 hs hm => ?_)
    · obtain ⟨d_3, d_4, d_5, rfl, rfl⟩ := w_
      have h_p_products := (((rK (rT zI))).mono e1 h_p_products)
      have h_p_parts := (((rK zI)).mono e1 h_p_parts)
      obtain ⟨v_p_which, rfl, h_p_which⟩ := hv1
      cases (show v_p_which = V.int p_which from h_p_which)
      have b1 := Same.refl G1
      refine (show (_ : TS) _ ([some v_p_products, some (.int p_count), some v_p_parts, some (.int p_which), d_4, d_5, none] : L2.St) _ from ?_)
      unfold m_law_refuses_b9 at hm
      try dsimp only at hm
      refine w_mkZ (K := K) (i := 4) (O := []) (a_one (e_var (K := K) (i := 1) (R := zI) (x := p_count) rfl rfl)) hs hm (fun p_fresh v_p_fresh G2 O_p_fresh H2 e2 hs hd2 hm => ?_)
      have h_p_products := (((rK (rT zI))).mono e2 h_p_products)
      have h_p_parts := (((rK zI)).mono e2 h_p_parts)
      have h_p_fresh := hd2
      have b1 := Same.trans b1 e2
      refine (show (_ : TS) _ ([some v_p_products, some (.int p_count), some v_p_parts, some (.int p_which), some v_p_fresh, d_5, none] : L2.St) _ from ?_)
      refine w_asg (K := K) (tg_name (i := 5) (R := zI)) (e_lendZ obmD lendsD sc_I h_p_fresh (fun _ eL3 rL3 => (e_ixL (e_KL (EvN.evK (e_lst (l_cons (e_methR0 (mt := "size") (fm := ⟨H, G, E, cl⟩) (by exact fun _ _ _ _ => rfl) (e_var (K := K) (i := 4) (R := (rDn C)) (x := (roD p_fresh)) rfl rL3)) (l_cons (e_add (e_methR0 (mt := "size") (fm := ⟨H, G, E, cl⟩) (by exact fun _ _ _ _ => rfl) (e_var (K := K) (i := 4) (R := (rDn C)) (x := (roD p_fresh)) rfl rL3)) (e_ixL (e_KL (e_var (K := K) (i := 2) (R := (rK zI)) (x := p_parts) rfl (((rK zI)).mono eL3 h_p_parts))) e_int)) (l_cons (e_sub (e_neg e_int) (e_ixL (e_KL (e_var (K := K) (i := 2) (R := (rK zI)) (x := p_parts) rfl (((rK zI)).mono eL3 h_p_parts))) e_int)) l_nil))) (by decide)))) (e_ixL (e_KL (e_var (K := K) (i := 2) (R := (rK zI)) (x := p_parts) rfl (((rK zI)).mono eL3 h_p_parts))) e_int)))) hs hm (fun p_number vv4 G4 H4 e4 hs hv4 hm => ?_)
      obtain ⟨v_p_number, rfl, h_p_number⟩ := hv4
      cases (show v_p_number = V.int p_number from h_p_number)
      have h_p_products := (((rK (rT zI))).mono e4 h_p_products)
      have h_p_parts := (((rK zI)).mono e4 h_p_parts)
      have h_p_fresh := (obD_mono _ _ _ _ _ e4 h_p_fresh)
      have b1 := Same.trans b1 e4
      refine (show (_ : TS) _ ([some v_p_products, some (.int p_count), some v_p_parts, some (.int p_which), some v_p_fresh, some (.int p_number), none] : L2.St) _ from ?_)
      refine w_ifY (La := []) (Lb := []) (O := O_p_fresh) (yt_and (yt_pure0 obmD (fun Fz _ => (t_or (t_test (K := K) (e_cmp (p := fun i j => decide (j < i)) (e_var (K := K) (i := 1) (R := zI) (x := p_count) rfl rfl) e_int)) (t_test (K := K) (e_ne srI (e_var (K := K) (i := 3) (R := zI) (x := p_which) rfl rfl) e_int))))) (yt_not (yt_val (K := K) (y_call (fm := ⟨H, G, E, cl⟩) (S := fun v0 => (rsC zI (rsV v0 (rsC (rK (rT zI)) (rsC zI (rs1 zI)))))) (h := fun s a => x_law_refused (a.1) s (a.2.1) (a.2.2.1) (a.2.2.2)) (yA_cons (y_pure0 obmD (fun Fz _ => (e_var (K := K) (i := 3) (R := zI) (x := p_which) rfl rfl))) (yA_obj rfl (yA_cons (y_pure0 obmD (fun Fz _ => (e_var (K := K) (i := 0) (R := (rK (rT zI))) (x := p_products) rfl h_p_products))) (yA_cons (y_pure0 obmD (fun Fz _ => (e_var (K := K) (i := 5) (R := zI) (x := p_number) rfl rfl))) (yA_one (y_pure0 obmD (fun Fz _ => e_int))))))))))) hs h_p_fresh hx_own hm (fun p_fresh G5 O_p_fresh H5 e5 hs hd5 hm => ?_) (fun p_fresh G5 O_p_fresh H5 e5 hs hd5 hm => ?_)
      · have h_p_products := (((rK (rT zI))).mono e5 h_p_products)
        have h_p_parts := (((rK zI)).mono e5 h_p_parts)
        have h_p_fresh := hd5
        have b1 := Same.trans b1 e5
        exact w_ret (K := K) (kr := Tn.rt) e_bl hs hm fun r v G2 H2 hs2 hr2 hq => E1.rt r v _ _ _ hs2 hr2 hq
      · have h_p_products := (((rK (rT zI))).mono e5 h_p_products)
        have h_p_parts := (((rK zI)).mono e5 h_p_parts)
        have h_p_fresh := hd5
        have b1 := Same.trans b1 e5
        refine nx_of ?_
        refine (show (_ : TS) _ ([some v_p_products, some (.int p_count), some v_p_parts, some (.int p_which), some v_p_fresh, some (.int p_number), none] : L2.St) _ from ?_)
        have hs : Hs _ _ [] _ := Hs.cut (O := O_p_fresh) (Lb := []) hs
        exact E1.nx () _ _ _ _ _ b1 ⟨some (.int p_which), some v_p_fresh, some (.int p_number), rfl, rfl⟩ (Same.refl _) hs hm.out
    · obtain ⟨d_3, d_4, d_5, rfl, rfl⟩ := w_
      have h_p_products := (((rK (rT zI))).mono e1 h_p_products)
      have h_p_parts := (((rK zI)).mono e1 h_p_parts)
      refine (show (_ : TS) _ ([some v_p_products, some (.int p_count), some v_p_parts, d_3, d_4, d_5, none] : L2.St) _ from ?_)
      try dsimp only at hm
      refine w_mkZ (K := K) (i := 4) (O := []) (a_one (e_var (K := K) (i := 1) (R := zI) (x := p_count) rfl rfl)) hs hm (fun p_fresh v_p_fresh G6 O_p_fresh H6 e6 hs hd6 hm => ?_)
      have h_p_products := (((rK (rT zI))).mono e6 h_p_products)
      have h_p_parts := (((rK zI)).mono e6 h_p_parts)
      have h_p_fresh := hd6
      refine (show (_ : TS) _ ([some v_p_products, some (.int p_count), some v_p_parts, d_3, some v_p_fresh, d_5, none] : L2.St) _ from ?_)
      refine w_ifY (La := []) (Lb := []) (O := O_p_fresh) (yt_not (yt_val (K := K) (y_call (fm := ⟨H, G, E, cl⟩) (S := fun v0 => (rsC zI (rsV v0 (rsC (rK (rT zI)) (rsC zI (rs1 zI)))))) (h := fun s a => x_law_refused (a.1) s (a.2.1) (a.2.2.1) (a.2.2.2)) (yA_cons (y_pure0 obmD (fun Fz _ => e_int)) (yA_obj rfl (yA_cons (y_pure0 obmD (fun Fz _ => (e_var (K := K) (i := 0) (R := (rK (rT zI))) (x := p_products) rfl h_p_products))) (yA_cons (y_pure0 obmD (fun Fz _ => e_int)) (yA_one (y_pure0 obmD (fun Fz _ => (e_ixL (e_KL (EvN.evK (e_lst (l_cons (e_add (e_var (K := K) (i := 1) (R := zI) (x := p_count) rfl rfl) (e_ixL (e_KL (e_var (K := K) (i := 2) (R := (rK zI)) (x := p_parts) rfl h_p_parts)) e_int)) (l_cons (e_sub (e_neg e_int) (e_ixL (e_KL (e_var (K := K) (i := 2) (R := (rK zI)) (x := p_parts) rfl h_p_parts)) e_int)) l_nil)) (by decide)))) (e_ixL (e_KL (e_var (K := K) (i := 2) (R := (rK zI)) (x := p_parts) rfl h_p_parts)) e_int)))))))))))) hs h_p_fresh hx_own hm (fun p_fresh G7 O_p_fresh H7 e7 hs hd7 hm => ?_) (fun p_fresh G7 O_p_fresh H7 e7 hs hd7 hm => ?_)
      · have h_p_products := (((rK (rT zI))).mono e7 h_p_products)
        have h_p_parts := (((rK zI)).mono e7 h_p_parts)
        have h_p_fresh := hd7
        exact w_ret0 (K := K) e_bl hs hm fun r v G2 H2 hs2 hr2 hq => hq v G2 H2 hs2.fin hr2
      · have h_p_products := (((rK (rT zI))).mono e7 h_p_products)
        have h_p_parts := (((rK zI)).mono e7 h_p_parts)
        have h_p_fresh := hd7
        refine nx_of ?_
        refine (show (_ : TS) _ ([some v_p_products, some (.int p_count), some v_p_parts, d_3, some v_p_fresh, d_5, none] : L2.St) _ from ?_)
        refine w_asg (K := K) (tg_name (i := 6) (R := zI)) (e_ixL (e_KL (EvN.evK (e_lst (l_cons (e_add (e_len sq_K (e_var (K := K) (i := 0) (R := (rK (rT zI))) (x := p_products) rfl h_p_products)) (e_ixL (e_KL (e_var (K := K) (i := 2) (R := (rK zI)) (x := p_parts) rfl h_p_parts)) e_int)) (l_cons (e_sub (e_neg e_int) (e_ixL (e_KL (e_var (K := K) (i := 2) (R := (rK zI)) (x := p_parts) rfl h_p_parts)) e_int)) l_nil)) (by decide)))) (e_ixL (e_KL (e_var (K := K) (i := 2) (R := (rK zI)) (x := p_parts) rfl h_p_parts)) e_int)) hs hm (fun p_place vv8 G8 H8 e8 hs hv8 hm => ?_)
        obtain ⟨v_p_place, rfl, h_p_place⟩ := hv8
        cases (show v_p_place = V.int p_place from h_p_place)
        have h_p_products := (((rK (rT zI))).mono e8 h_p_products)
        have h_p_parts := (((rK zI)).mono e8 h_p_parts)
        have h_p_fresh := (obD_mono _ _ _ _ _ e8 h_p_fresh)
        refine (show (_ : TS) _ ([some v_p_products, some (.int p_count), some v_p_parts, d_3, some v_p_fresh, d_5, some (.int p_place)] : L2.St) _ from ?_)
        exact w_retY (K := K) (La := []) (Lb := []) (O := O_p_fresh) (kr := fun r _ => r) (y_and (y_call (fm := ⟨H, G, E, cl⟩) (S := fun v0 => (rsC zI (rsV v0 (rsC (rK (rT zI)) (rsC zI (rs1 zI)))))) (h := fun s a => x_law_refused (a.1) s (a.2.1) (a.2.2.1) (a.2.2.2)) (yA_cons (y_pure0 obmD (fun Fz _ => e_int)) (yA_obj rfl (yA_cons (y_pure0 obmD (fun Fz _ => (e_var (K := K) (i := 0) (R := (rK (rT zI))) (x := p_products) rfl h_p_products))) (yA_cons (y_pure0 obmD (fun Fz _ => e_int)) (yA_one (y_pure0 obmD (fun Fz _ => (e_var (K := K) (i := 6) (R := zI) (x := p_place) rfl rfl))))))))) (y_call (fm := ⟨H, G, E, cl⟩) (S := fun v0 => (rsC zI (rsV v0 (rsC (rK (rT zI)) (rsC zI (rs1 zI)))))) (h := fun s a => x_law_refused (a.1) s (a.2.1) (a.2.2.1) (a.2.2.2)) (yA_cons (y_pure0 obmD (fun Fz _ => e_int)) (yA_obj rfl (yA_cons (y_pure0 obmD (fun Fz _ => (EvN.evK (e_lst l_nil (by decide))))) (yA_cons (y_pure0 obmD (fun Fz _ => e_int)) (yA_one (y_pure0 obmD (fun Fz _ => e_int))))))))) hs h_p_fresh hx_own hm fun x d v G2 O2 H2 e2 hs2 ob2 hr2 hq => hq v G2 H2 hs2.fin hr2

theorem ok_law {P : Program} {w : World} {K : PySem.W.Frag} {mg : Str → Option Value} {base : Heap} {cl : Nat → Addr} {fa : Addr} {fd : FuncData} (F : Fun K "law" "law" s_law fa fd) (T : Txt K mg cl) {C : Addr} (TD : DFacts K C) (C_law_parts : Cal P w K mg base "_law_parts" 1 ["cell", "sizes"] (spP K cl (rsC zI (rs1 (rK zI))) (rK zI) (fun a => m_law_parts (a.1) (a.2)))) (C_law_far : Cal P w K mg base "_law_far" 1 ["script", "k"] (spP K cl (rsC (rL zI) (rs1 zI)) zI (fun a => m_law_far (a.1) (a.2)))) (C_law_truth : Cal P w K mg base "_law_truth" 2 ["script", "at", "count"] (spP K cl (rsC (rL zI) (rsC zI (rs1 zI))) (rK zI) (fun a => m_law_truth (a.1) (a.2.1) (a.2.2)))) (C_D_init : ICal P w K mg base C "Diagrams" 1 ["self", "count"] (spI K cl C (ObD K C) (rs1 zI) (fun a => m_D_init a))) (C_law_node : Cal P w K mg base "_law_node" 17 ["diagrams", "count", "truth"] (spX K cl (ObD K C) (fun v0 => (rsV v0 (rsC zI (rs1 (rK zI))))) zI (fun s a => x_law_node s (a.1) (a.2)))) (C_law_product : Cal P w K mg base "_law_product" 3 ["script", "at", "count", "truth"] (spP K cl (rsC (rL zI) (rsC zI (rsC zI (rs1 (rK zI))))) (rT zI) (fun a => m_law_product (a.1) (a.2.1) (a.2.2.1) (a.2.2.2)))) (C_law_right_product : Cal P w K mg base "_law_right_product" 20 ["diagrams", "product", "high", "truth"] (spX K cl (ObD K C) (fun v0 => (rsV v0 (rsC (rT zI) (rsC zI (rs1 (rK zI)))))) rB (fun s a => x_law_right_product s (a.1) (a.2.1) (a.2.2)))) (C_law_same : Cal P w K mg base "_law_same" 2 ["actual", "expected"] (spP K cl (rsC (rO zI) (rs1 (rO zI))) rB (fun a => m_law_same (a.1) (a.2)))) (C_own_case : Cal P w K mg base "own_case" 19 ["diagrams", "cover", "at", "low"] (spX K cl (ObD K C) (fun v0 => (rsV v0 (rsC (rK (rT zI)) (rsC zI (rs1 zI))))) (rO zI) (fun s a => x_own_case s (a.1) (a.2.1) (a.2.2)))) (C_law_own : Cal P w K mg base "_law_own" 2 ["cover", "at", "truth", "count"] (spP K cl (rsC (rK (rT zI)) (rsC zI (rsC (rK zI) (rs1 zI)))) (rO zI) (fun a => m_law_own (a.1) (a.2.1) (a.2.2.1) (a.2.2.2)))) (C_law_refuses : Cal P w K mg base "_law_refuses" 21 ["products", "count", "parts"] (spP K cl (rsC (rK (rT zI)) (rsC zI (rs1 (rK zI)))) rB (fun a => m_law_refuses (a.1) (a.2.1) (a.2.2)))) (C_law_bits : Cal P w K mg base "_law_bits" 1 ["number", "count"] (spPF K cl (rsC zI (rs1 zI)) (fun H => (rF H zI)) (fun a => m_law_bits (a.1) (a.2)))) (C_D_value : MCal P w K mg base C "value" 2 ["self", "f", "bits"] (spP K cl (rsC (rDn C) (rsC zI (rs1 (rK zI)))) zI (fun a => m_D_value (a.1) (a.2.1) (a.2.2)))) :
    FnOk P w K mg base (L2.CX P w) 22 fa fd ["script"] (spP K cl (rs1 (rL zI)) rB (fun a => m_law a)) := by
  refine F.okX sc_law (fun vs H Q E h => ?_) (fun cdv A outer s H vs Q E hr h => ?_)
  · obtain ⟨G, a, _, hS, _⟩ := h
    exact ln1 _ _ _ _ hS
  · obtain ⟨G, p_script, hg, hS, hm⟩ := h
    obtain ⟨v_p_script, rfl, h_p_script⟩ := hS
    have tk : Takes (cxOf (L2.CX P w) P w K mg base N_law "law" (defScope s_law) fa cdv A outer s H E) (fun cls d _ H => E cls d H) := takes_of rfl rfl rfl rfl
    refine ⟨_, (pss_cons (ps_set (i := 1) sc_law.nd rfl (by first | exact Or.inl rfl | exact Or.inr rfl) (pe_call (E := E) C_law_parts.ok (hr.mono (by decide)) rfl C_law_parts.mgx C_law_parts.kp C_law_parts.bd .nil (passes_call tk (fun _ _ _ _ h => h)) (pa_cons (pe_call (E := E) C_law_far.ok (hr.mono (by decide)) rfl C_law_far.mgx C_law_far.kp C_law_far.bd .nil (passes_call tk (fun _ _ _ _ h => h)) (pa_cons (pv 0) (pa_cons pe_int pa_nil))) (pa_cons (pe_lst (pa_cons pe_int (pa_cons pe_int (pa_cons pe_int (pa_cons pe_int (pa_cons pe_int (pa_cons pe_int pa_nil))))))) pa_nil))))
     (pss_cons (ps_set (i := 2) sc_law.nd rfl (by first | exact Or.inl rfl | exact Or.inr rfl) (pe_ix (r := rIxL K) ix_list (pe_lst (pa_cons pe_int (pa_cons pe_int (pa_cons pe_int (pa_cons pe_int (pa_cons pe_int (pa_cons pe_int (pa_cons pe_int (pa_cons pe_int (pa_cons pe_int (pa_cons pe_int pa_nil))))))))))) (pe_ix (r := rIxL K) ix_list (pv 1) pe_int (fun _ _ => rfl)) (fun _ _ => rfl)))
     (pss_cons (ps_set (i := 3) sc_law.nd rfl (by first | exact Or.inl rfl | exact Or.inr rfl) (pe_call (E := E) C_law_truth.ok (hr.mono (by decide)) rfl C_law_truth.mgx C_law_truth.kp C_law_truth.bd .nil (passes_call tk (fun _ _ _ _ h => h)) (pa_cons (pv 0) (pa_cons pe_int (pa_cons (pv 2) pa_nil)))))
     (pss_cons (ps_set (i := 4) sc_law.nd rfl (by first | exact Or.inl rfl | exact Or.inr rfl) (pe_call (E := E) C_law_truth.ok (hr.mono (by decide)) rfl C_law_truth.mgx C_law_truth.kp C_law_truth.bd .nil (passes_call tk (fun _ _ _ _ h => h)) (pa_cons (pv 0) (pa_cons pe_int (pa_cons (pv 2) pa_nil)))))
     (pss_cons (ps_set (i := 5) sc_law.nd rfl (by first | exact Or.inl rfl | exact Or.inr rfl) (pe_make (E := E) C_D_init.mkc C_D_init.ok (hr.mono (by decide)) rfl C_D_init.mgC C_D_init.bd .nil (passes_call tk (fun _ _ _ _ h => h)) (pa_cons (pv 2) pa_nil)))
     (pss_cons (ps_asg (pe_call (E := E) C_law_node.ok (hr.mono (by decide)) rfl C_law_node.mgx C_law_node.kp C_law_node.bd .nil (passes_call tk (fun _ _ _ _ h => h)) (pa_cons (pv 5) (pa_cons (pv 2) (pa_cons (pv 3) pa_nil)))) (pg_name (i := 6) sc_law.nd rfl (by first | exact Or.inl rfl | exact Or.inr rfl)))
     (pss_cons (ps_asg (pe_call (E := E) C_law_node.ok (hr.mono (by decide)) rfl C_law_node.mgx C_law_node.kp C_law_node.bd .nil (passes_call tk (fun _ _ _ _ h => h)) (pa_cons (pv 5) (pa_cons (pv 2) (pa_cons (pv 4) pa_nil)))) (pg_name (i := 7) sc_law.nd rfl (by first | exact Or.inl rfl | exact Or.inr rfl)))
     (pss_cons (ps_setLc (i := 8) (own := [("k", 15)]) rfl sc_law.nd rfl rfl (sw_true rfl rfl rfl (by decide +kernel)) (pi_range1 rfl T.n_range (pa_cons pe_int pa_nil)) (blkOk_by (own := [("k", 15)]) (N := N_law) (sc := defScope s_law) (by decide +kernel)) (fun _ _ _ _ _ => (pg_name (i := 15) sc_law.nd rfl (by first | exact Or.inl rfl | exact Or.inr rfl))) (fun _ _ _ _ _ => pts_nil) (fun _ _ _ _ _ => (pe_call (E := E0) C_law_product.ok (hr.mono (by decide)) rfl C_law_product.mgx C_law_product.kp C_law_product.bd .nil passL (pa_cons (pv 0) (pa_cons (pe_op op_add pe_int (pv 15)) (pa_cons (pv 2) (pa_cons (pv 3) pa_nil)))))))
     (pss_cons (ps_for (passes_of rfl) rfl (pi_list (pv 8)) (pg_name (i := 9) sc_law.nd rfl (by first | exact Or.inl rfl | exact Or.inr rfl)) (pss_cons (ps_if (pt_not (pt_val (pe_call (E := E) C_law_right_product.ok (hr.mono (by decide)) rfl C_law_right_product.mgx C_law_right_product.kp C_law_right_product.bd .nil (passes_call tk (fun _ _ _ _ h => h)) (pa_cons (pv 5) (pa_cons (pv 9) (pa_cons (pv 6) (pa_cons (pv 3) pa_nil))))))) (pss_cons (ps_ret pe_bl)
     pss_nil) pss_nil)
     pss_nil))
     (pss_cons (ps_set (i := 10) sc_law.nd rfl (by first | exact Or.inl rfl | exact Or.inr rfl) (pe_slice (r := rSlL K) sl_list (pv 8) po_none (po_some (pe_ix (r := rIxL K) ix_list (pv 1) pe_int (fun _ _ => rfl)))))
     (pss_cons (ps_if (pt_cmpR op_eq (pe_ix (r := rIxL K) ix_list (pv 1) pe_int (fun _ _ => rfl)) pe_int (nomark _)) (pss_cons (ps_set (i := 10) sc_law.nd rfl (by first | exact Or.inl rfl | exact Or.inr rfl) (pe_op op_cat (pv 10) (pe_slice (r := rSlL K) sl_list (pv 10) po_none (po_some pe_int))))
     pss_nil) pss_nil)
     (pss_cons (ps_set (i := 11) sc_law.nd rfl (by first | exact Or.inl rfl | exact Or.inr rfl) (pe_callTy (r := rLi K) call_list_of (by rfl) T.n_list b_list (pa_cons (pv 10) pa_nil)))
     (pss_cons (ps_for (passes_of rfl) rfl (pi_range1 rfl T.n_range (pa_cons (pe_callB (r := Mw.rLen K) call_len (by rfl) T.n_len b_len (pa_cons (pv 10) pa_nil)) pa_nil)) (pg_name (i := 12) sc_law.nd rfl (by first | exact Or.inl rfl | exact Or.inr rfl)) (pss_cons (ps_if (pt_not (pt_val (pe_call (E := E) C_law_same.ok (hr.mono (by decide)) rfl C_law_same.mgx C_law_same.kp C_law_same.bd .nil (passes_call tk (fun _ _ _ _ h => h)) (pa_cons (pe_call (E := E) C_own_case.ok (hr.mono (by decide)) rfl C_own_case.mgx C_own_case.kp C_own_case.bd .nil (passes_call tk (fun _ _ _ _ h => h)) (pa_cons (pv 5) (pa_cons (pv 11) (pa_cons (pv 12) (pa_cons (pv 7) pa_nil))))) (pa_cons (pe_call (E := E) C_law_own.ok (hr.mono (by decide)) rfl C_law_own.mgx C_law_own.kp C_law_own.bd .nil (passes_call tk (fun _ _ _ _ h => h)) (pa_cons (pv 10) (pa_cons (pv 12) (pa_cons (pv 4) (pa_cons (pv 2) pa_nil))))) pa_nil))))) (pss_cons (ps_ret pe_bl)
     pss_nil) pss_nil)
     pss_nil))
     (pss_cons (ps_if (PW.pt (pw_or (pt_cmpR (r := rNeD K) (op_neD hr.units) (pv 11) (pv 10) (nomark _)) (pw_or1 (pt_not (pt_val (pe_call (E := E) C_law_refuses.ok (hr.mono (by decide)) rfl C_law_refuses.mgx C_law_refuses.kp C_law_refuses.bd .nil (passes_call tk (fun _ _ _ _ h => h)) (pa_cons (pv 8) (pa_cons (pv 2) (pa_cons (pe_slice (r := rSlL K) sl_list (pv 1) (po_some pe_int) po_none) pa_nil))))))))) (pss_cons (ps_ret pe_bl)
     pss_nil) pss_nil)
     (pss_cons (ps_for (passes_of rfl) rfl (pi_range1 rfl T.n_range (pa_cons (pe_op op_shl pe_int (pv 2)) pa_nil)) (pg_name (i := 13) sc_law.nd rfl (by first | exact Or.inl rfl | exact Or.inr rfl)) (pss_cons (ps_set (i := 14) sc_law.nd rfl (by first | exact Or.inl rfl | exact Or.inr rfl) (pe_call (E := E) C_law_bits.ok (hr.mono (by decide)) rfl C_law_bits.mgx C_law_bits.kp C_law_bits.bd .nil (passes_call tk (fun _ _ _ _ h => h)) (pa_cons (pv 13) (pa_cons (pv 2) pa_nil))))
     (pss_cons (ps_if (PW.pt (pw_or (pt_cmpR op_ne (pe_meth (E := E) (pv 5) TD.cl C_D_value.me C_D_value.ok (hr.mono (by decide)) C_D_value.bd .nil (passes_call tk (fun _ _ _ _ h => h)) (pa_cons (pv 6) (pa_cons (pv 14) pa_nil))) (pe_ix (r := rIxL K) ix_list (pv 3) (pv 13) (fun _ _ => rfl)) (nomark _)) (pw_or1 (pt_cmpR op_ne (pe_meth (E := E) (pv 5) TD.cl C_D_value.me C_D_value.ok (hr.mono (by decide)) C_D_value.bd .nil (passes_call tk (fun _ _ _ _ h => h)) (pa_cons (pv 7) (pa_cons (pe_callTy (r := rLi K) call_list_of (by rfl) T.n_list b_list (pa_cons (pv 14) pa_nil)) pa_nil))) (pe_ix (r := rIxL K) ix_list (pv 4) (pv 13) (fun _ _ => rfl)) (nomark _))))) (pss_cons (ps_ret pe_bl)
     pss_nil) pss_nil)
     pss_nil)))
     (pss_cons (ps_ret pe_bl)
     pss_nil)))))))))))))))), ?_⟩
    have hs : Hs ⟨H, G, E, cl⟩ G [] H := Hs.start hg
    have hm := Wp.ofSp (G0 := G) hm
    try dsimp only at hm
    unfold m_law at hm
    refine (show (_ : TS) _ ([some v_p_script, none, none, none, none, none, none, none, none, none, none, none, none, none, none, none] : L2.St) _ from ?_)
    refine w_asg (K := K) (tg_name (i := 1) (R := (rK zI))) (e_call (fm := ⟨H, G, E, cl⟩) (a_cons (e_call (fm := ⟨H, G, E, cl⟩) (a_cons (e_var (K := K) (i := 0) (R := (rL zI)) (x := p_script) rfl h_p_script) (a_one e_int))) (a_one (EvN.evK (e_lst (l_cons e_int (l_cons e_int (l_cons e_int (l_cons e_int (l_cons e_int (l_cons e_int l_nil)))))) (by decide)))))) hs hm (fun p_head vv1 G1 H1 e1 hs hv1 hm => ?_)
    obtain ⟨v_p_head, rfl, h_p_head⟩ := hv1
    have h_p_script := (((rL zI)).mono e1 h_p_script)
    refine (show (_ : TS) _ ([some v_p_script, some v_p_head, none, none, none, none, none, none, none, none, none, none, none, none, none, none] : L2.St) _ from ?_)
    refine w_asg (K := K) (tg_name (i := 2) (R := zI)) (e_ixL (e_KL (EvN.evK (e_lst (l_cons e_int (l_cons e_int (l_cons e_int (l_cons e_int (l_cons e_int (l_cons e_int (l_cons e_int (l_cons e_int (l_cons e_int (l_cons e_int l_nil)))))))))) (by decide)))) (e_ixL (e_KL (e_var (K := K) (i := 1) (R := (rK zI)) (x := p_head) rfl h_p_head)) e_int)) hs hm (fun p_count vv2 G2 H2 e2 hs hv2 hm => ?_)
    obtain ⟨v_p_count, rfl, h_p_count⟩ := hv2
    cases (show v_p_count = V.int p_count from h_p_count)
    have h_p_script := (((rL zI)).mono e2 h_p_script)
    have h_p_head := (((rK zI)).mono e2 h_p_head)
    refine (show (_ : TS) _ ([some v_p_script, some v_p_head, some (.int p_count), none, none, none, none, none, none, none, none, none, none, none, none, none] : L2.St) _ from ?_)
    refine w_asg (K := K) (tg_name (i := 3) (R := (rK zI))) (e_call (fm := ⟨H, G, E, cl⟩) (a_cons (e_var (K := K) (i := 0) (R := (rL zI)) (x := p_script) rfl h_p_script) (a_cons e_int (a_one (e_var (K := K) (i := 2) (R := zI) (x := p_count) rfl rfl))))) hs hm (fun p_truth vv3 G3 H3 e3 hs hv3 hm => ?_)
    obtain ⟨v_p_truth, rfl, h_p_truth⟩ := hv3
    have h_p_script := (((rL zI)).mono e3 h_p_script)
    have h_p_head := (((rK zI)).mono e3 h_p_head)
    refine (show (_ : TS) _ ([some v_p_script, some v_p_head, some (.int p_count), some v_p_truth, none, none, none, none, none, none, none, none, none, none, none, none] : L2.St) _ from ?_)
    refine w_asg (K := K) (tg_name (i := 4) (R := (rK zI))) (e_call (fm := ⟨H, G, E, cl⟩) (a_cons (e_var (K := K) (i := 0) (R := (rL zI)) (x := p_script) rfl h_p_script) (a_cons e_int (a_one (e_var (K := K) (i := 2) (R := zI) (x := p_count) rfl rfl))))) hs hm (fun p_lower vv4 G4 H4 e4 hs hv4 hm => ?_)
    obtain ⟨v_p_lower, rfl, h_p_lower⟩ := hv4
    have h_p_script := (((rL zI)).mono e4 h_p_script)
    have h_p_head := (((rK zI)).mono e4 h_p_head)
    have h_p_truth := (((rK zI)).mono e4 h_p_truth)
    refine (show (_ : TS) _ ([some v_p_script, some v_p_head, some (.int p_count), some v_p_truth, some v_p_lower, none, none, none, none, none, none, none, none, none, none, none] : L2.St) _ from ?_)
    refine w_mkZ (K := K) (i := 5) (O := []) (a_one (e_var (K := K) (i := 2) (R := zI) (x := p_count) rfl rfl)) hs hm (fun p_diagrams v_p_diagrams G5 O_p_diagrams H5 e5 hs hd5 hm => ?_)
    have h_p_script := (((rL zI)).mono e5 h_p_script)
    have h_p_head := (((rK zI)).mono e5 h_p_head)
    have h_p_truth := (((rK zI)).mono e5 h_p_truth)
    have h_p_lower := (((rK zI)).mono e5 h_p_lower)
    have h_p_diagrams := hd5
    refine (show (_ : TS) _ ([some v_p_script, some v_p_head, some (.int p_count), some v_p_truth, some v_p_lower, some v_p_diagrams, none, none, none, none, none, none, none, none, none, none] : L2.St) _ from ?_)
    refine w_asgY (K := K) (La := []) (Lb := []) (O := O_p_diagrams) (tg_name (i := 6) (R := zI)) (y_call (fm := ⟨H, G, E, cl⟩) (S := fun v0 => (rsV v0 (rsC zI (rs1 (rK zI))))) (h := fun s a => x_law_node s (a.1) (a.2)) (yA_obj rfl (yA_cons (y_pure0 obmD (fun Fz _ => (e_var (K := K) (i := 2) (R := zI) (x := p_count) rfl rfl))) (yA_one (y_pure0 obmD (fun Fz _ => (e_var (K := K) (i := 3) (R := (rK zI)) (x := p_truth) rfl h_p_truth))))))) hs h_p_diagrams hx_own hm (fun p_high p_diagrams vv6 G6 O_p_diagrams H6 e6 hs hd6 hv6 hm => ?_)
    try dsimp only at hm
    obtain ⟨v_p_high, rfl, h_p_high⟩ := hv6
    cases (show v_p_high = V.int p_high from h_p_high)
    have h_p_script := (((rL zI)).mono e6 h_p_script)
    have h_p_head := (((rK zI)).mono e6 h_p_head)
    have h_p_truth := (((rK zI)).mono e6 h_p_truth)
    have h_p_lower := (((rK zI)).mono e6 h_p_lower)
    have h_p_diagrams := hd6
    refine (show (_ : TS) _ ([some v_p_script, some v_p_head, some (.int p_count), some v_p_truth, some v_p_lower, some v_p_diagrams, some (.int p_high), none, none, none, none, none, none, none, none, none] : L2.St) _ from ?_)
    refine w_asgY (K := K) (La := []) (Lb := []) (O := O_p_diagrams) (tg_name (i := 7) (R := zI)) (y_call (fm := ⟨H, G, E, cl⟩) (S := fun v0 => (rsV v0 (rsC zI (rs1 (rK zI))))) (h := fun s a => x_law_node s (a.1) (a.2)) (yA_obj rfl (yA_cons (y_pure0 obmD (fun Fz _ => (e_var (K := K) (i := 2) (R := zI) (x := p_count) rfl rfl))) (yA_one (y_pure0 obmD (fun Fz _ => (e_var (K := K) (i := 4) (R := (rK zI)) (x := p_lower) rfl h_p_lower))))))) hs h_p_diagrams hx_own hm (fun p_low p_diagrams vv7 G7 O_p_diagrams H7 e7 hs hd7 hv7 hm => ?_)
    try dsimp only at hm
    obtain ⟨v_p_low, rfl, h_p_low⟩ := hv7
    cases (show v_p_low = V.int p_low from h_p_low)
    have h_p_script := (((rL zI)).mono e7 h_p_script)
    have h_p_head := (((rK zI)).mono e7 h_p_head)
    have h_p_truth := (((rK zI)).mono e7 h_p_truth)
    have h_p_lower := (((rK zI)).mono e7 h_p_lower)
    have h_p_diagrams := hd7
    refine (show (_ : TS) _ ([some v_p_script, some v_p_head, some (.int p_count), some v_p_truth, some v_p_lower, some v_p_diagrams, some (.int p_high), some (.int p_low), none, none, none, none, none, none, none, none] : L2.St) _ from ?_)
    refine w_asg (K := K) (tg_name (i := 8) (R := (rK (rT zI)))) (EvN.evK (n_lc (S := (rT zI)) (i_rng1 e_int) (fun _ h => nomatch h) (tg_name (i := 15) (R := zI)) (by decide) (fun x8 vs8 G8 e8 hv8 => by
     obtain ⟨v8_p_k, rfl, h8_p_k⟩ := hv8
     exact ⟨t_yes, (e_call (fm := ⟨H, G, E0, cl⟩) (a_cons (e_var (K := K) (i := 0) (R := (rL zI)) (x := p_script) rfl (((rL zI)).mono e8 h_p_script)) (a_cons (e_add e_int (e_var (K := K) (i := 15) (R := zI) (x := x8) rfl h8_p_k)) (a_cons (e_var (K := K) (i := 2) (R := zI) (x := p_count) rfl rfl) (a_one (e_var (K := K) (i := 3) (R := (rK zI)) (x := p_truth) rfl (((rK zI)).mono e8 h_p_truth)))))))⟩))) hs hm (fun p_products vv9 G9 H9 e9 hs hv9 hm => ?_)
    obtain ⟨v_p_products, rfl, h_p_products⟩ := hv9
    have h_p_script := (((rL zI)).mono e9 h_p_script)
    have h_p_head := (((rK zI)).mono e9 h_p_head)
    have h_p_truth := (((rK zI)).mono e9 h_p_truth)
    have h_p_lower := (((rK zI)).mono e9 h_p_lower)
    have h_p_diagrams := (obD_mono _ _ _ _ _ e9 h_p_diagrams)
    refine (show (_ : TS) _ ([some v_p_script, some v_p_head, some (.int p_count), some v_p_truth, some v_p_lower, some v_p_diagrams, some (.int p_high), some (.int p_low), some v_p_products, none, none, none, none, none, none, none] : L2.St) _ from ?_)
    refine w_forB (K := K) (Rr := rB) (fun (p_diagrams : Sd) (σ : L2.St) (G : Hp) (O : Own) => ∃ (O_p_diagrams : Own) (d_9 : Option V), σ = [some v_p_script, some v_p_head, some (.int p_count), some v_p_truth, some v_p_lower, some v_p_diagrams, some (.int p_high), some (.int p_low), some v_p_products, d_9, none, none, none, none, none, none] ∧ O = [] ++ (O_p_diagrams ++ []) ∧ (ObD K C) p_diagrams v_p_diagrams G O_p_diagrams) (i_list (e_KL (e_var (K := K) (i := 8) (R := (rK (rT zI))) (x := p_products) rfl h_p_products))) (fun _ _ _ _ _ _ h => nomatch h) (tg_name (i := 9) (R := (rT zI))) hs hm ⟨O_p_diagrams, none, rfl, rfl, h_p_diagrams⟩ (fun r v G2 O2 H2 hs2 hr2 hq => hq v G2 H2 hs2.fin hr2) (fun p_product p_diagrams σ_ G1_10 G10 O_ H10 vv10 D10 Qb10 e10 w_ e110 hs hv10 E10 hm => ?_) (fun p_diagrams σ_ G1_10 G10 O_ H10 e10 w_ e110 hs hm => ?_)
    · obtain ⟨O_p_diagrams, d_9, rfl, rfl, h_p_diagrams⟩ := w_
      have h_p_script := (((rL zI)).mono e10 h_p_script)
      have h_p_head := (((rK zI)).mono e10 h_p_head)
      have h_p_truth := (((rK zI)).mono e10 h_p_truth)
      have h_p_lower := (((rK zI)).mono e10 h_p_lower)
      have h_p_products := (((rK (rT zI))).mono e10 h_p_products)
      have h_p_diagrams := (obD_mono _ _ _ _ _ e110 h_p_diagrams)
      obtain ⟨v_p_product, rfl, h_p_product⟩ := hv10
      have b10 := Same.refl G10
      refine (show (_ : TS) _ ([some v_p_script, some v_p_head, some (.int p_count), some v_p_truth, some v_p_lower, some v_p_diagrams, some (.int p_high), some (.int p_low), some v_p_products, some v_p_product, none, none, none, none, none, none] : L2.St) _ from ?_)
      unfold m_law_b26 at hm
      try dsimp only at hm
      refine w_ifY (La := []) (Lb := []) (O := O_p_diagrams) (yt_not (yt_val (K := K) (y_call (fm := ⟨H, G, E, cl⟩) (S := fun v0 => (rsV v0 (rsC (rT zI) (rsC zI (rs1 (rK zI)))))) (h := fun s a => x_law_right_product s (a.1) (a.2.1) (a.2.2)) (yA_obj rfl (yA_cons (y_pure0 obmD (fun Fz _ => (e_var (K := K) (i := 9) (R := (rT zI)) (x := p_product) rfl h_p_product))) (yA_cons (y_pure0 obmD (fun Fz _ => (e_var (K := K) (i := 6) (R := zI) (x := p_high) rfl rfl))) (yA_one (y_pure0 obmD (fun Fz _ => (e_var (K := K) (i := 3) (R := (rK zI)) (x := p_truth) rfl h_p_truth)))))))))) hs h_p_diagrams hx_own hm (fun p_diagrams G11 O_p_diagrams H11 e11 hs hd11 hm => ?_) (fun p_diagrams G11 O_p_diagrams H11 e11 hs hd11 hm => ?_)
      · have h_p_script := (((rL zI)).mono e11 h_p_script)
        have h_p_head := (((rK zI)).mono e11 h_p_head)
        have h_p_truth := (((rK zI)).mono e11 h_p_truth)
        have h_p_lower := (((rK zI)).mono e11 h_p_lower)
        have h_p_products := (((rK (rT zI))).mono e11 h_p_products)
        have h_p_product := (((rT zI)).mono e11 h_p_product)
        have h_p_diagrams := hd11
        have b10 := Same.trans b10 e11
        exact w_ret (K := K) (kr := Tn.rt) e_bl hs hm fun r v G2 H2 hs2 hr2 hq => E10.rt r v _ _ _ hs2 hr2 hq
      · have h_p_script := (((rL zI)).mono e11 h_p_script)
        have h_p_head := (((rK zI)).mono e11 h_p_head)
        have h_p_truth := (((rK zI)).mono e11 h_p_truth)
        have h_p_lower := (((rK zI)).mono e11 h_p_lower)
        have h_p_products := (((rK (rT zI))).mono e11 h_p_products)
        have h_p_product := (((rT zI)).mono e11 h_p_product)
        have h_p_diagrams := hd11
        have b10 := Same.trans b10 e11
        refine nx_of ?_
        refine (show (_ : TS) _ ([some v_p_script, some v_p_head, some (.int p_count), some v_p_truth, some v_p_lower, some v_p_diagrams, some (.int p_high), some (.int p_low), some v_p_products, some v_p_product, none, none, none, none, none, none] : L2.St) _ from ?_)
        exact E10.nx p_diagrams _ _ _ _ _ b10 ⟨O_p_diagrams, some v_p_product, rfl, rfl, h_p_diagrams⟩ (Same.refl _) hs hm.out
    · obtain ⟨O_p_diagrams, d_9, rfl, rfl, h_p_diagrams⟩ := w_
      have h_p_script := (((rL zI)).mono e10 h_p_script)
      have h_p_head := (((rK zI)).mono e10 h_p_head)
      have h_p_truth := (((rK zI)).mono e10 h_p_truth)
      have h_p_lower := (((rK zI)).mono e10 h_p_lower)
      have h_p_products := (((rK (rT zI))).mono e10 h_p_products)
      have h_p_diagrams := (obD_mono _ _ _ _ _ e110 h_p_diagrams)
      refine (show (_ : TS) _ ([some v_p_script, some v_p_head, some (.int p_count), some v_p_truth, some v_p_lower, some v_p_diagrams, some (.int p_high), some (.int p_low), some v_p_products, d_9, none, none, none, none, none, none] : L2.St) _ from ?_)
      try dsimp only at hm
      refine w_asg (K := K) (tg_name (i := 10) (R := (rK (rT zI)))) (EvN.evK (n_slice (e_KL (e_var (K := K) (i := 8) (R := (rK (rT zI))) (x := p_products) rfl h_p_products)) o_none (o_some (K := K) (e_ixL (e_KL (e_var (K := K) (i := 1) (R := (rK zI)) (x := p_head) rfl h_p_head)) e_int)))) hs hm (fun p_cover vv12 G12 H12 e12 hs hv12 hm => ?_)
      obtain ⟨v_p_cover, rfl, h_p_cover⟩ := hv12
      have h_p_script := (((rL zI)).mono e12 h_p_script)
      have h_p_head := (((rK zI)).mono e12 h_p_head)
      have h_p_truth := (((rK zI)).mono e12 h_p_truth)
      have h_p_lower := (((rK zI)).mono e12 h_p_lower)
      have h_p_diagrams := (obD_mono _ _ _ _ _ e12 h_p_diagrams)
      have h_p_products := (((rK (rT zI))).mono e12 h_p_products)
      refine (show (_ : TS) _ ([some v_p_script, some v_p_head, some (.int p_count), some v_p_truth, some v_p_lower, some v_p_diagrams, some (.int p_high), some (.int p_low), some v_p_products, d_9, some v_p_cover, none, none, none, none, none] : L2.St) _ from ?_)
      refine w_ifJ (k := fun s_ => (m_law_j14 p_head p_count p_truth p_lower p_diagrams p_high p_low p_products s_)) (fun (p_cover : (List (List Int))) (σ : L2.St) (G : Hp) (O : Own) => ∃ (v_p_cover : V), σ = [some v_p_script, some v_p_head, some (.int p_count), some v_p_truth, some v_p_lower, some v_p_diagrams, some (.int p_high), some (.int p_low), some v_p_products, d_9, some v_p_cover, none, none, none, none, none] ∧ O = [] ++ (O_p_diagrams ++ []) ∧ ((rK (rT zI))).r K G v_p_cover p_cover) (t_test (K := K) (e_eq srI (e_ixL (e_KL (e_var (K := K) (i := 1) (R := (rK zI)) (x := p_head) rfl h_p_head)) e_int) e_int)) hs hm (fun p_cover σ_ G1_13 G13 O_ H13 e13 w_ e113 hs hm => ?_) (fun G13 H13 J13 e13 hs hm => ?_) (fun G13 H13 J13 e13 hs hm => ?_)
      · obtain ⟨v_p_cover, rfl, rfl, h_p_cover⟩ := w_
        have h_p_script := (((rL zI)).mono e13 h_p_script)
        have h_p_head := (((rK zI)).mono e13 h_p_head)
        have h_p_truth := (((rK zI)).mono e13 h_p_truth)
        have h_p_lower := (((rK zI)).mono e13 h_p_lower)
        have h_p_diagrams := (obD_mono _ _ _ _ _ e13 h_p_diagrams)
        have h_p_products := (((rK (rT zI))).mono e13 h_p_products)
        have h_p_cover := (((rK (rT zI))).mono e113 h_p_cover)
        refine (show (_ : TS) _ ([some v_p_script, some v_p_head, some (.int p_count), some v_p_truth, some v_p_lower, some v_p_diagrams, some (.int p_high), some (.int p_low), some v_p_products, d_9, some v_p_cover, none, none, none, none, none] : L2.St) _ from ?_)
        unfold m_law_j14 at hm
        try dsimp only at hm
        refine w_asg (K := K) (tg_name (i := 11) (R := (rK (rT zI)))) (EvN.evK (n_list sq_K (e_var (K := K) (i := 10) (R := (rK (rT zI))) (x := p_cover) rfl h_p_cover))) hs hm (fun p_passed vv15 G15 H15 e15 hs hv15 hm => ?_)
        obtain ⟨v_p_passed, rfl, h_p_passed⟩ := hv15
        have h_p_script := (((rL zI)).mono e15 h_p_script)
        have h_p_head := (((rK zI)).mono e15 h_p_head)
        have h_p_truth := (((rK zI)).mono e15 h_p_truth)
        have h_p_lower := (((rK zI)).mono e15 h_p_lower)
        have h_p_diagrams := (obD_mono _ _ _ _ _ e15 h_p_diagrams)
        have h_p_products := (((rK (rT zI))).mono e15 h_p_products)
        have h_p_cover := (((rK (rT zI))).mono e15 h_p_cover)
        refine (show (_ : TS) _ ([some v_p_script, some v_p_head, some (.int p_count), some v_p_truth, some v_p_lower, some v_p_diagrams, some (.int p_high), some (.int p_low), some v_p_products, d_9, some v_p_cover, some v_p_passed, none, none, none, none] : L2.St) _ from ?_)
        refine w_forB (K := K) (Rr := rB) (fun (p_diagrams : Sd) (σ : L2.St) (G : Hp) (O : Own) => ∃ (O_p_diagrams : Own) (d_12 : Option V), σ = [some v_p_script, some v_p_head, some (.int p_count), some v_p_truth, some v_p_lower, some v_p_diagrams, some (.int p_high), some (.int p_low), some v_p_products, d_9, some v_p_cover, some v_p_passed, d_12, none, none, none] ∧ O = [] ++ (O_p_diagrams ++ []) ∧ (ObD K C) p_diagrams v_p_diagrams G O_p_diagrams) (i_rng1 (e_len sq_K (e_var (K := K) (i := 10) (R := (rK (rT zI))) (x := p_cover) rfl h_p_cover))) (fun _ _ _ _ _ _ h => nomatch h) (tg_name (i := 12) (R := zI)) hs hm ⟨O_p_diagrams, none, rfl, rfl, h_p_diagrams⟩ (fun r v G2 O2 H2 hs2 hr2 hq => hq v G2 H2 hs2.fin hr2) (fun p_at p_diagrams σ_ G1_16 G16 O_ H16 vv16 D16 Qb16 e16 w_ e116 hs hv16 E16 hm => ?_) (fun p_diagrams σ_ G1_16 G16 O_ H16 e16 w_ e116 hs hm => ?_)
        · obtain ⟨O_p_diagrams, d_12, rfl, rfl, h_p_diagrams⟩ := w_
          have h_p_script := (((rL zI)).mono e16 h_p_script)
          have h_p_head := (((rK zI)).mono e16 h_p_head)
          have h_p_truth := (((rK zI)).mono e16 h_p_truth)
          have h_p_lower := (((rK zI)).mono e16 h_p_lower)
          have h_p_products := (((rK (rT zI))).mono e16 h_p_products)
          have h_p_cover := (((rK (rT zI))).mono e16 h_p_cover)
          have h_p_passed := (((rK (rT zI))).mono e16 h_p_passed)
          have h_p_diagrams := (obD_mono _ _ _ _ _ e116 h_p_diagrams)
          obtain ⟨v_p_at, rfl, h_p_at⟩ := hv16
          cases (show v_p_at = V.int p_at from h_p_at)
          have b16 := Same.refl G16
          refine (show (_ : TS) _ ([some v_p_script, some v_p_head, some (.int p_count), some v_p_truth, some v_p_lower, some v_p_diagrams, some (.int p_high), some (.int p_low), some v_p_products, d_9, some v_p_cover, some v_p_passed, some (.int p_at), none, none, none] : L2.St) _ from ?_)
          unfold m_law_b24 at hm
          try dsimp only at hm
          refine w_ifY (La := []) (Lb := []) (O := O_p_diagrams) (yt_not (yt_val (K := K) (y_callP (fm := ⟨H, G, E, cl⟩) (S := (rsC (rO zI) (rs1 (rO zI)))) (h := fun a => m_law_same (a.1) (a.2)) obmD (yA_cons (y_call (fm := ⟨H, G, E, cl⟩) (S := fun v0 => (rsV v0 (rsC (rK (rT zI)) (rsC zI (rs1 zI))))) (h := fun s a => x_own_case s (a.1) (a.2.1) (a.2.2)) (yA_obj rfl (yA_cons (y_pure0 obmD (fun Fz _ => (e_var (K := K) (i := 11) (R := (rK (rT zI))) (x := p_passed) rfl h_p_passed))) (yA_cons (y_pure0 obmD (fun Fz _ => (e_var (K := K) (i := 12) (R := zI) (x := p_at) rfl rfl))) (yA_one (y_pure0 obmD (fun Fz _ => (e_var (K := K) (i := 7) (R := zI) (x := p_low) rfl rfl)))))))) (yA_one (y_pure0 obmD (fun Fz _ => (e_call (fm := ⟨Fz, G, E, cl⟩) (a_cons (e_var (K := K) (i := 10) (R := (rK (rT zI))) (x := p_cover) rfl h_p_cover) (a_cons (e_var (K := K) (i := 12) (R := zI) (x := p_at) rfl rfl) (a_cons (e_var (K := K) (i := 4) (R := (rK zI)) (x := p_lower) rfl h_p_lower) (a_one (e_var (K := K) (i := 2) (R := zI) (x := p_count) rfl rfl))))))))))))) hs h_p_diagrams hx_own hm (fun p_diagrams G17 O_p_diagrams H17 e17 hs hd17 hm => ?_) (fun p_diagrams G17 O_p_diagrams H17 e17 hs hd17 hm => ?_)
          · have h_p_script := (((rL zI)).mono e17 h_p_script)
            have h_p_head := (((rK zI)).mono e17 h_p_head)
            have h_p_truth := (((rK zI)).mono e17 h_p_truth)
            have h_p_lower := (((rK zI)).mono e17 h_p_lower)
            have h_p_products := (((rK (rT zI))).mono e17 h_p_products)
            have h_p_cover := (((rK (rT zI))).mono e17 h_p_cover)
            have h_p_passed := (((rK (rT zI))).mono e17 h_p_passed)
            have h_p_diagrams := hd17
            have b16 := Same.trans b16 e17
            exact w_ret (K := K) (kr := Tn.rt) e_bl hs hm fun r v G2 H2 hs2 hr2 hq => E16.rt r v _ _ _ hs2 hr2 hq
          · have h_p_script := (((rL zI)).mono e17 h_p_script)
            have h_p_head := (((rK zI)).mono e17 h_p_head)
            have h_p_truth := (((rK zI)).mono e17 h_p_truth)
            have h_p_lower := (((rK zI)).mono e17 h_p_lower)
            have h_p_products := (((rK (rT zI))).mono e17 h_p_products)
            have h_p_cover := (((rK (rT zI))).mono e17 h_p_cover)
            have h_p_passed := (((rK (rT zI))).mono e17 h_p_passed)
            have h_p_diagrams := hd17
            have b16 := Same.trans b16 e17
            refine nx_of ?_
            refine (show (_ : TS) _ ([some v_p_script, some v_p_head, some (.int p_count), some v_p_truth, some v_p_lower, some v_p_diagrams, some (.int p_high), some (.int p_low), some v_p_products, d_9, some v_p_cover, some v_p_passed, some (.int p_at), none, none, none] : L2.St) _ from ?_)
            exact E16.nx p_diagrams _ _ _ _ _ b16 ⟨O_p_diagrams, some (.int p_at), rfl, rfl, h_p_diagrams⟩ (Same.refl _) hs hm.out
        · obtain ⟨O_p_diagrams, d_12, rfl, rfl, h_p_diagrams⟩ := w_
          have h_p_script := (((rL zI)).mono e16 h_p_script)
          have h_p_head := (((rK zI)).mono e16 h_p_head)
          have h_p_truth := (((rK zI)).mono e16 h_p_truth)
          have h_p_lower := (((rK zI)).mono e16 h_p_lower)
          have h_p_products := (((rK (rT zI))).mono e16 h_p_products)
          have h_p_cover := (((rK (rT zI))).mono e16 h_p_cover)
          have h_p_passed := (((rK (rT zI))).mono e16 h_p_passed)
          have h_p_diagrams := (obD_mono _ _ _ _ _ e116 h_p_diagrams)
          refine (show (_ : TS) _ ([some v_p_script, some v_p_head, some (.int p_count), some v_p_truth, some v_p_lower, some v_p_diagrams, some (.int p_high), some (.int p_low), some v_p_products, d_9, some v_p_cover, some v_p_passed, d_12, none, none, none] : L2.St) _ from ?_)
          try dsimp only at hm
          refine w_if (t_or (t_test (K := K) (e_neD (qK (qT qI)) (by decide) (e_var (K := K) (i := 11) (R := (rK (rT zI))) (x := p_passed) rfl h_p_passed) (e_var (K := K) (i := 10) (R := (rK (rT zI))) (x := p_cover) rfl h_p_cover))) (t_not (t_val (K := K) (e_call (fm := ⟨H, G, E, cl⟩) (a_cons (e_var (K := K) (i := 8) (R := (rK (rT zI))) (x := p_products) rfl h_p_products) (a_cons (e_var (K := K) (i := 2) (R := zI) (x := p_count) rfl rfl) (a_one (EvN.evK (n_slice (e_KL (e_var (K := K) (i := 1) (R := (rK zI)) (x := p_head) rfl h_p_head)) (o_some (K := K) e_int) o_none))))))))) hs hm (fun G18 H18 e18 hs hm => ?_) (fun G18 H18 e18 hs hm => ?_)
          · have h_p_script := (((rL zI)).mono e18 h_p_script)
            have h_p_head := (((rK zI)).mono e18 h_p_head)
            have h_p_truth := (((rK zI)).mono e18 h_p_truth)
            have h_p_lower := (((rK zI)).mono e18 h_p_lower)
            have h_p_diagrams := (obD_mono _ _ _ _ _ e18 h_p_diagrams)
            have h_p_products := (((rK (rT zI))).mono e18 h_p_products)
            have h_p_cover := (((rK (rT zI))).mono e18 h_p_cover)
            have h_p_passed := (((rK (rT zI))).mono e18 h_p_passed)
            exact w_ret0 (K := K) e_bl hs hm fun r v G2 H2 hs2 hr2 hq => hq v G2 H2 hs2.fin hr2
          · have h_p_script := (((rL zI)).mono e18 h_p_script)
            have h_p_head := (((rK zI)).mono e18 h_p_head)
            have h_p_truth := (((rK zI)).mono e18 h_p_truth)
            have h_p_lower := (((rK zI)).mono e18 h_p_lower)
            have h_p_diagrams := (obD_mono _ _ _ _ _ e18 h_p_diagrams)
            have h_p_products := (((rK (rT zI))).mono e18 h_p_products)
            have h_p_cover := (((rK (rT zI))).mono e18 h_p_cover)
            have h_p_passed := (((rK (rT zI))).mono e18 h_p_passed)
            refine nx_of ?_
            refine (show (_ : TS) _ ([some v_p_script, some v_p_head, some (.int p_count), some v_p_truth, some v_p_lower, some v_p_diagrams, some (.int p_high), some (.int p_low), some v_p_products, d_9, some v_p_cover, some v_p_passed, d_12, none, none, none] : L2.St) _ from ?_)
            refine w_forB (K := K) (Rr := rB) (fun (_ : Unit) (σ : L2.St) (G : Hp) (O : Own) => ∃ (d_13 : Option V) (d_14 : Option V), σ = [some v_p_script, some v_p_head, some (.int p_count), some v_p_truth, some v_p_lower, some v_p_diagrams, some (.int p_high), some (.int p_low), some v_p_products, d_9, some v_p_cover, some v_p_passed, d_12, d_13, d_14, none] ∧ O = [] ++ (O_p_diagrams ++ [])) (i_rng1 (e_shl e_int (e_var (K := K) (i := 2) (R := zI) (x := p_count) rfl rfl))) (fun _ _ _ _ _ _ h => nomatch h) (tg_name (i := 13) (R := zI)) hs hm ⟨none, none, rfl, rfl⟩ (fun r v G2 O2 H2 hs2 hr2 hq => hq v G2 H2 hs2.fin hr2) (fun p_case s_ σ_ G1_19 G19 O_ H19 vv19 D19 Qb19 e19 w_ e119 hs hv19 E19 hm => ?_) (fun s_ σ_ G1_19 G19 O_ H19 e19 w_ e119 hs hm => ?_)
            · obtain ⟨d_13, d_14, rfl, rfl⟩ := w_
              have h_p_script := (((rL zI)).mono e19 h_p_script)
              have h_p_head := (((rK zI)).mono e19 h_p_head)
              have h_p_truth := (((rK zI)).mono e19 h_p_truth)
              have h_p_lower := (((rK zI)).mono e19 h_p_lower)
              have h_p_diagrams := (obD_mono _ _ _ _ _ e19 h_p_diagrams)
              have h_p_products := (((rK (rT zI))).mono e19 h_p_products)
              have h_p_cover := (((rK (rT zI))).mono e19 h_p_cover)
              have h_p_passed := (((rK (rT zI))).mono e19 h_p_passed)
              obtain ⟨v_p_case, rfl, h_p_case⟩ := hv19
              cases (show v_p_case = V.int p_case from h_p_case)
              have b19 := Same.refl G19
              refine (show (_ : TS) _ ([some v_p_script, some v_p_head, some (.int p_count), some v_p_truth, some v_p_lower, some v_p_diagrams, some (.int p_high), some (.int p_low), some v_p_products, d_9, some v_p_cover, some v_p_passed, d_12, some (.int p_case), d_14, none] : L2.St) _ from ?_)
              unfold m_law_b23 at hm
              try dsimp only at hm
              refine w_asg (K := K) (tg_name (i := 14) (R := (rF H zI))) (e_callF (Rf := fun H => (rF H zI)) (fm := ⟨H, G, E, cl⟩) an_F (a_cons (e_var (K := K) (i := 13) (R := zI) (x := p_case) rfl rfl) (a_one (e_var (K := K) (i := 2) (R := zI) (x := p_count) rfl rfl)))) hs hm (fun p_bits vv20 G20 H20 e20 hs hv20 hm => ?_)
              obtain ⟨v_p_bits, rfl, h_p_bits⟩ := hv20
              have h_p_script := (((rL zI)).mono e20 h_p_script)
              have h_p_head := (((rK zI)).mono e20 h_p_head)
              have h_p_truth := (((rK zI)).mono e20 h_p_truth)
              have h_p_lower := (((rK zI)).mono e20 h_p_lower)
              have h_p_diagrams := (obD_mono _ _ _ _ _ e20 h_p_diagrams)
              have h_p_products := (((rK (rT zI))).mono e20 h_p_products)
              have h_p_cover := (((rK (rT zI))).mono e20 h_p_cover)
              have h_p_passed := (((rK (rT zI))).mono e20 h_p_passed)
              have b19 := Same.trans b19 e20
              refine (show (_ : TS) _ ([some v_p_script, some v_p_head, some (.int p_count), some v_p_truth, some v_p_lower, some v_p_diagrams, some (.int p_high), some (.int p_low), some v_p_products, d_9, some v_p_cover, some v_p_passed, d_12, some (.int p_case), some v_p_bits, none] : L2.St) _ from ?_)
              refine w_if (t_lendZ obmD lendsD h_p_diagrams (fun _ eL21 rL21 => (t_or (t_test (K := K) (e_ne srI (e_methR (mt := "value") (fm := ⟨H, G, E, cl⟩) (by exact fun _ _ _ _ => rfl) (e_var (K := K) (i := 5) (R := (rDn C)) (x := (roD p_diagrams)) rfl rL21) (a_cons (e_var (K := K) (i := 6) (R := zI) (x := p_high) rfl rfl) (a_one (e_FK (e_var (K := K) (i := 14) (R := (rF H zI)) (x := p_bits) rfl (((rF H zI)).mono eL21 h_p_bits)))))) (e_ixL (e_KL (e_var (K := K) (i := 3) (R := (rK zI)) (x := p_truth) rfl (((rK zI)).mono eL21 h_p_truth))) (e_var (K := K) (i := 13) (R := zI) (x := p_case) rfl rfl)))) (t_test (K := K) (e_ne srI (e_methR (mt := "value") (fm := ⟨H, G, E, cl⟩) (by exact fun _ _ _ _ => rfl) (e_var (K := K) (i := 5) (R := (rDn C)) (x := (roD p_diagrams)) rfl rL21) (a_cons (e_var (K := K) (i := 7) (R := zI) (x := p_low) rfl rfl) (a_one (EvN.evK (n_list sq_K (e_FK (e_var (K := K) (i := 14) (R := (rF H zI)) (x := p_bits) rfl (((rF H zI)).mono eL21 h_p_bits)))))))) (e_ixL (e_KL (e_var (K := K) (i := 4) (R := (rK zI)) (x := p_lower) rfl (((rK zI)).mono eL21 h_p_lower))) (e_var (K := K) (i := 13) (R := zI) (x := p_case) rfl rfl))))))) hs hm (fun G22 H22 e22 hs hm => ?_) (fun G22 H22 e22 hs hm => ?_)
              · have h_p_script := (((rL zI)).mono e22 h_p_script)
                have h_p_head := (((rK zI)).mono e22 h_p_head)
                have h_p_truth := (((rK zI)).mono e22 h_p_truth)
                have h_p_lower := (((rK zI)).mono e22 h_p_lower)
                have h_p_diagrams := (obD_mono _ _ _ _ _ e22 h_p_diagrams)
                have h_p_products := (((rK (rT zI))).mono e22 h_p_products)
                have h_p_cover := (((rK (rT zI))).mono e22 h_p_cover)
                have h_p_passed := (((rK (rT zI))).mono e22 h_p_passed)
                have h_p_bits := (((rF H zI)).mono e22 h_p_bits)
                have b19 := Same.trans b19 e22
                exact w_ret (K := K) (kr := Tn.rt) e_bl hs hm fun r v G2 H2 hs2 hr2 hq => E19.rt r v _ _ _ hs2 hr2 hq
              · have h_p_script := (((rL zI)).mono e22 h_p_script)
                have h_p_head := (((rK zI)).mono e22 h_p_head)
                have h_p_truth := (((rK zI)).mono e22 h_p_truth)
                have h_p_lower := (((rK zI)).mono e22 h_p_lower)
                have h_p_diagrams := (obD_mono _ _ _ _ _ e22 h_p_diagrams)
                have h_p_products := (((rK (rT zI))).mono e22 h_p_products)
                have h_p_cover := (((rK (rT zI))).mono e22 h_p_cover)
                have h_p_passed := (((rK (rT zI))).mono e22 h_p_passed)
                have h_p_bits := (((rF H zI)).mono e22 h_p_bits)
                have b19 := Same.trans b19 e22
                refine nx_of ?_
                refine (show (_ : TS) _ ([some v_p_script, some v_p_head, some (.int p_count), some v_p_truth, some v_p_lower, some v_p_diagrams, some (.int p_high), some (.int p_low), some v_p_products, d_9, some v_p_cover, some v_p_passed, d_12, some (.int p_case), some v_p_bits, none] : L2.St) _ from ?_)
                exact E19.nx () _ _ _ _ _ b19 ⟨some (.int p_case), some v_p_bits, rfl, rfl⟩ (Same.refl _) hs hm.out
            · obtain ⟨d_13, d_14, rfl, rfl⟩ := w_
              have h_p_script := (((rL zI)).mono e19 h_p_script)
              have h_p_head := (((rK zI)).mono e19 h_p_head)
              have h_p_truth := (((rK zI)).mono e19 h_p_truth)
              have h_p_lower := (((rK zI)).mono e19 h_p_lower)
              have h_p_diagrams := (obD_mono _ _ _ _ _ e19 h_p_diagrams)
              have h_p_products := (((rK (rT zI))).mono e19 h_p_products)
              have h_p_cover := (((rK (rT zI))).mono e19 h_p_cover)
              have h_p_passed := (((rK (rT zI))).mono e19 h_p_passed)
              refine (show (_ : TS) _ ([some v_p_script, some v_p_head, some (.int p_count), some v_p_truth, some v_p_lower, some v_p_diagrams, some (.int p_high), some (.int p_low), some v_p_products, d_9, some v_p_cover, some v_p_passed, d_12, d_13, d_14, none] : L2.St) _ from ?_)
              try dsimp only at hm
              exact w_ret0 (K := K) e_bl hs hm fun r v G2 H2 hs2 hr2 hq => hq v G2 H2 hs2.fin hr2
      · have h_p_script := (((rL zI)).mono e13 h_p_script)
        have h_p_head := (((rK zI)).mono e13 h_p_head)
        have h_p_truth := (((rK zI)).mono e13 h_p_truth)
        have h_p_lower := (((rK zI)).mono e13 h_p_lower)
        have h_p_diagrams := (obD_mono _ _ _ _ _ e13 h_p_diagrams)
        have h_p_products := (((rK (rT zI))).mono e13 h_p_products)
        have h_p_cover := (((rK (rT zI))).mono e13 h_p_cover)
        have b13 := Same.refl G13
        refine w_asg (K := K) (tg_name (i := 10) (R := (rK (rT zI)))) (EvN.evK (n_cat (e_var (K := K) (i := 10) (R := (rK (rT zI))) (x := p_cover) rfl h_p_cover) (EvN.evK (n_slice (e_KL (e_var (K := K) (i := 10) (R := (rK (rT zI))) (x := p_cover) rfl h_p_cover)) o_none (o_some (K := K) e_int))))) hs hm (fun p_cover vv25 G25 H25 e25 hs hv25 hm => ?_)
        obtain ⟨v_p_cover, rfl, h_p_cover⟩ := hv25
        have h_p_script := (((rL zI)).mono e25 h_p_script)
        have h_p_head := (((rK zI)).mono e25 h_p_head)
        have h_p_truth := (((rK zI)).mono e25 h_p_truth)
        have h_p_lower := (((rK zI)).mono e25 h_p_lower)
        have h_p_diagrams := (obD_mono _ _ _ _ _ e25 h_p_diagrams)
        have h_p_products := (((rK (rT zI))).mono e25 h_p_products)
        have b13 := Same.trans b13 e25
        refine (show (_ : TS) _ ([some v_p_script, some v_p_head, some (.int p_count), some v_p_truth, some v_p_lower, some v_p_diagrams, some (.int p_high), some (.int p_low), some v_p_products, d_9, some v_p_cover, none, none, none, none, none] : L2.St) _ from ?_)
        exact J13.nx p_cover _ _ _ _ _ b13 ⟨v_p_cover, rfl, rfl, h_p_cover⟩ (Same.refl _) hs hm
      · have h_p_script := (((rL zI)).mono e13 h_p_script)
        have h_p_head := (((rK zI)).mono e13 h_p_head)
        have h_p_truth := (((rK zI)).mono e13 h_p_truth)
        have h_p_lower := (((rK zI)).mono e13 h_p_lower)
        have h_p_diagrams := (obD_mono _ _ _ _ _ e13 h_p_diagrams)
        have h_p_products := (((rK (rT zI))).mono e13 h_p_products)
        have h_p_cover := (((rK (rT zI))).mono e13 h_p_cover)
        have b13 := Same.refl G13
        exact J13.nx p_cover _ _ _ _ _ b13 ⟨v_p_cover, rfl, rfl, h_p_cover⟩ (Same.refl _) hs hm
end G84

namespace G84
open PySem PySem.Spec L2 Mw Dgo
abbrev sD_found : Stmt := inClass (top 10) 2
abbrev ND_found : List Str := ["self", "variable", "low", "high", "node"]
theorem scD_found : FnScope ND_found ["self", "variable", "low", "high"] (defScope sD_found) := ⟨rfl, rfl, rfl, by decide +kernel, rfl, by decide +kernel, by decide +kernel⟩
/-! ### the mirrors -/
section
variable {P : Program} {w : World} {K : PySem.W.Frag} {mg : Str → Option Value} {base : Heap} {cl : Nat → Addr} {fa C : Addr} {fd : FuncData}
theorem okD_found (F : Fun K "_found" "Diagrams._found" sD_found fa fd) (T : DFacts K C) (nlen : mg "len" = none) :
    FnOk P w K mg base (L2.CX P w) 1 fa fd ["self", "variable", "low", "high"] (spM K cl (ObD K C) (rsC zI (rsC zI (rs1 zI))) zI (fun s a => mD_found s a.1 a.2.1 a.2.2)) := by
  refine F.okX scD_found (fun vs H Q E h => ?_) (fun cdv A outer s H vs Q E hr h => ?_)
  · obtain ⟨F1, G, O, d, v0, rest, a, rfl, _, _, hS, _⟩ := h
    obtain ⟨_, _, rfl, _, _, _, rfl, _, _, rfl, _⟩ := hS
    rfl
  · obtain ⟨F1, G, O, d, v0, rest, ⟨p_v, p_lo, p_hi⟩, rfl, hs, ob, hS, hm⟩ := h
    obtain ⟨_, _, rfl, h1, _, _, rfl, h2, _, rfl, h3⟩ := hS
    cases (show _ = V.int p_v from h1); cases (show _ = V.int p_lo from h2); cases (show _ = V.int p_hi from h3)
    obtain ⟨p, dx, l, a, b, vs, kn, kc, rfl, rfl, hN, hM, hC⟩ := ob
    refine ⟨_, pss_cons (ps_if (pt_cmpR op_eq (pv 2) (pv 3) (nomark _)) (pss_one (ps_ret (pv 2))) pss_nil)
      (pss_cons (ps_asg (pe_tup (pa_cons (pv 1) (pa_cons (pv 2) (pa_cons (pv 3) pa_nil)))) (pg_name (i := 4) scD_found.nd rfl (Or.inl rfl)))
      (pss_cons (ps_if (pt_cmp (pc_dnotin (hu_of hr) (pv 4) (pe_fld (pv 0) rfl))) (pss_cons (ps_dput (hu_of hr) (pe_fld (pv 0) rfl) (pv 4) (show PE _ _ (tCB (Mw.rLen K) _) from pe_callB (r := Mw.rLen K) call_len (by rfl) nlen b_len (pa_cons (pe_fld (pv 0) rfl) pa_nil)) rfl)
         (pss_cons (ps_expr (show PE _ _ (tBM K "list" rAppend _ _) from pe_bm PySem.F.plainAttrs_list PySem.F.slot_list_append PySem.F.type_list_append mt_append (pe_fld (pv 0) rfl) (pa_cons (pv 4) pa_nil))) pss_nil)) pss_nil)
      (pss_cons (ps_ret (pe_dget (hu_of hr) (pe_fld (pv 0) rfl) (pv 4) (fun _ _ => rfl))) pss_nil))), ?_⟩
    have hm : Wp (mD_found d p_v p_lo p_hi) _ _ := hm
    unfold mD_found at hm
    refine (show (_ : TS) _ ([some (.ref p), some (.int p_v), some (.int p_lo), some (.int p_hi), none] : L2.St) _ from ?_)
    refine w_if (t_test (K := K) (e_eq srI (e_var (K := K) (i := 2) (R := zI) (x := p_lo) rfl rfl) (e_var (K := K) (i := 3) (R := zI) (x := p_hi) rfl rfl))) hs hm (fun G1 H1 e1 hs hm => ?_) (fun G1 H1 e1 hs hm => ?_)
    · exact w_retS (K := K) (m := .ok p_lo) (kr := fun r => (r, d)) (e_var (K := K) (i := 2) (R := zI) (x := p_lo) rfl rfl) hs hm fun r v G2 H2 e2 hs2 hr2 hq => hq v G2 _ H2 hs2 ⟨p, dx, l, a, b, vs, kn, kc, rfl, rfl, hN.mono (e1.trans e2), hM.mono (e1.trans e2), hC.mono (e1.trans e2)⟩ rfl hr2
    · have hN := RLs.mono e1 hN
      have hM := RKt.mono e1 hM
      have hC := RKt.mono e1 hC
      refine w_asg (K := K) (tg_name (i := 4) (R := rX kt3)) (e_tup3 (e_var (K := K) (i := 1) (R := zI) (x := p_v) rfl rfl) (e_var (K := K) (i := 2) (R := zI) (x := p_lo) rfl rfl) (e_var (K := K) (i := 3) (R := zI) (x := p_hi) rfl rfl)) hs hm (fun node vv G2 H2 e2 hs hv hm => ?_)
      obtain ⟨v4, rfl, h4⟩ := hv
      have hN := RLs.mono e2 hN
      have hM := RKt.mono e2 hM
      have hC := RKt.mono e2 hC
      refine (show (_ : TS) _ ([some (.ref p), some (.int p_v), some (.int p_lo), some (.int p_hi), some v4] : L2.St) _ from ?_)
      refine w_if (t_val (K := K) (e_dninT (v_fld (v_var rfl) (List.mem_of_getElem? (i := 0) rfl) T.cl T.n_numbers lk_numbers) (List.mem_of_getElem? (i := 2) rfl) hM (e_var (K := K) (i := 4) rfl h4))) hs hm (fun G3 H3 e3 hs hm => ?_) (fun G3 H3 e3 hs hm => ?_)
      · have hN := RLs.mono e3 hN
        have hM := RKt.mono e3 hM
        have hC := RKt.mono e3 hC
        have h4 := (rX kt3).mono e3 h4
        refine w_dputT (K := K) 2 (v_fld (v_var rfl) (List.mem_of_getElem? (i := 0) rfl) T.cl T.n_numbers lk_numbers) rfl hM (e_lenV (v_fld (v_var rfl) (List.mem_of_getElem? (i := 0) rfl) T.cl T.n_nodes lk_nodes) (List.mem_of_getElem? (i := 1) rfl) hN) (e_var (K := K) (i := 4) rfl h4) hs hm (fun nums ws G4 H4 e4 hs hM hm => ?_)
        have hN := RLs.mono e4 hN
        have hC := RKt.mono e4 hC
        have h4 := (rX kt3).mono e4 h4
        refine w_appV (K := K) (R := rO (rX kt3)) 1 (v_fld (v_var rfl) (List.mem_of_getElem? (i := 0) rfl) T.cl T.n_nodes lk_nodes) rfl hN (e_some nn_X (e_var (K := K) (i := 4) rfl h4)) hs hm (fun y yv G5 H5 e5 hs hy hN hm => ?_)
        have hM := RKt.mono e5 hM
        have hC := RKt.mono e5 hC
        have h4 := (rX kt3).mono e5 h4
        refine nx_of ?_
        refine (show (_ : TS) _ ([some (.ref p), some (.int p_v), some (.int p_lo), some (.int p_hi), some v4] : L2.St) _ from ?_)
        exact w_retS (K := K) (kr := fun r => (r, (d.1, (⟨_, nums, d.2.chs⟩ : Bd.Dg)))) (e_dgetT (v_fld (v_var rfl) (List.mem_of_getElem? (i := 0) rfl) T.cl T.n_numbers lk_numbers) (List.mem_of_getElem? (i := 2) rfl) hM (e_var (K := K) (i := 4) rfl h4)) hs hm fun r v G6 H6 e6 hs2 hr2 hq => hq v G6 _ H6 hs2 ⟨p, dx, l, a, b, _, ws, kc, rfl, rfl, hN.mono e6, hM.mono e6, hC.mono e6⟩ rfl hr2
      · have hN := RLs.mono e3 hN
        have hM := RKt.mono e3 hM
        have hC := RKt.mono e3 hC
        have h4 := (rX kt3).mono e3 h4
        refine nx_of ?_
        refine (show (_ : TS) _ ([some (.ref p), some (.int p_v), some (.int p_lo), some (.int p_hi), some v4] : L2.St) _ from ?_)
        exact w_retS (K := K) (kr := fun r => (r, d)) (e_dgetT (v_fld (v_var rfl) (List.mem_of_getElem? (i := 0) rfl) T.cl T.n_numbers lk_numbers) (List.mem_of_getElem? (i := 2) rfl) hM (e_var (K := K) (i := 4) rfl h4)) hs hm fun r v G6 H6 e6 hs2 hr2 hq => hq v G6 _ H6 hs2 ⟨p, dx, l, a, b, vs, kn, kc, rfl, rfl, hN.mono e6, hM.mono e6, hC.mono e6⟩ rfl hr2
end
theorem lentSame {fm : Fm} {G H : Hp} {O : Own} {p l : Addr} {o0 o1 : HO} (hs : Hs fm G O H) (h0 : O[0]? = some (p, o0)) (h1 : O[1]? = some (l, o1)) : Same G (upd (upd G l o1) p o0) := by
  have hpl : p ≠ l := hs.ne 1 0 h1 h0 (by decide)
  refine (same_new (hs.at 1 h1).2.1).trans (same_new ?_)
  rw [upd_ne hpl]
  exact (hs.at 0 h0).2.1
abbrev sD_chosen : Stmt := inClass (top 10) 5
abbrev ND_chosen : List Str := ["self", "f", "g", "h", "top", "sides", "bit", "parts", "number"]
theorem scD_chosen : FnScope ND_chosen ["self", "f", "g", "h"] (defScope sD_chosen) := ⟨rfl, rfl, rfl, by decide +kernel, rfl, by decide +kernel, by decide +kernel⟩
theorem lentSameAt {fm : Fm} {G H : Hp} {O : Own} {p l : Addr} {o0 o1 : HO} (i j : Nat) (hij : j ≠ i) (hs : Hs fm G O H) (h0 : O[i]? = some (p, o0)) (h1 : O[j]? = some (l, o1)) : Same G (upd (upd G l o1) p o0) := by
  have hpl : p ≠ l := hs.ne j i h1 h0 hij
  refine (same_new (hs.at j h1).2.1).trans (same_new ?_)
  rw [upd_ne hpl]
  exact (hs.at i h0).2.1
section
variable {P : Program} {w : World} {K : PySem.W.Frag} {mg : Str → Option Value} {base : Heap} {cl : Nat → Addr} {fa C : Addr} {fd : FuncData}
theorem okD_chosen (F : Fun K "_chosen" "Diagrams._chosen" sD_chosen fa fd) (T : DFacts K C) (zero : ∃ t, mg "ZERO" = some (.int (0) t)) (one : ∃ t, mg "ONE" = some (.int (1) t)) (nrange : mg "range" = none)
    (me : Meth K C "_chosen" fa) (bd : Binds K fd ["self", "f", "g", "h"] [])
    (C_D_top : MCal P w K mg base C "_top" 1 ["self", "numbers"] (spP K cl (rsC (rDn C) (rs1 (rK zI))) zI (fun a => m_D_top (a.1) (a.2))))
    (C_D_side : MCal P w K mg base C "_side" 1 ["self", "number", "variable", "bit"] (spP K cl (rsC (rDn C) (rsC zI (rsC zI (rs1 zI)))) zI (fun a => m_D_side (a.1) (a.2.1) (a.2.2.1) (a.2.2.2))))
    (Cf : MCal P w K mg base C "_found" 1 ["self", "variable", "low", "high"] (spM K cl (ObD K C) (rsC zI (rsC zI (rs1 zI))) zI (fun s a => mD_found s a.1 a.2.1 a.2.2))) :
    ∀ n, FnOk P w K mg base (L2.CX P w) (n + 2) fa fd ["self", "f", "g", "h"] (spM K cl (ObD K C) (rsC zI (rsC zI (rs1 zI))) zI (fun s a => mD_chosen n s a.1 a.2.1 a.2.2)) := by
  intro n
  induction n with
  | zero =>
    refine F.okX scD_chosen (fun vs H Q E h => ?_) (fun cdv A outer s H vs Q E hr h => ?_)
    · obtain ⟨F1, G, O, d, v0, rest, a, rfl, _, _, hS, _⟩ := h
      obtain ⟨_, _, rfl, _, _, _, rfl, _, _, rfl, _⟩ := hS
      rfl
    · obtain ⟨F1, G, O, d, v0, rest, ⟨p_f, p_g, p_h⟩, rfl, hs, ob, hS, hm⟩ := h
      exact hm.out.elim
  | succ n ih =>
    refine F.okX scD_chosen (fun vs H Q E h => ?_) (fun cdv A outer s H vs Q E hr h => ?_)
    · obtain ⟨F1, G, O, d, v0, rest, a, rfl, _, _, hS, _⟩ := h
      obtain ⟨_, _, rfl, _, _, _, rfl, _, _, rfl, _⟩ := hS
      rfl
    · obtain ⟨F1, G, O, d, v0, rest, ⟨p_f, p_g, p_h⟩, rfl, hs, ob, hS, hm⟩ := h
      obtain ⟨_, _, rfl, h1, _, _, rfl, h2, _, rfl, h3⟩ := hS
      cases (show _ = V.int p_f from h1); cases (show _ = V.int p_g from h2); cases (show _ = V.int p_h from h3)
      have tk : Takes (cxOf (L2.CX P w) P w K mg base ND_chosen "Diagrams._chosen" (defScope sD_chosen) fa cdv A outer s H E) (fun cls d _ H => E cls d H) := takes_of rfl rfl rfl rfl
      have hr1 : Room 1 (A.deeper (PyProof.Rows.envOfC "Diagrams._chosen" (defScope sD_chosen) s.heap.objs.size fa cdv)) := hr.mono (by omega)
      have ob' := ob
      obtain ⟨p, dx, l, a, b, vs, kn, kc, rfl, rfl, hN, hM, hC⟩ := ob'
      refine ⟨_, (pss_cons (ps_if (PW.pt (pw_or (pt_cmpR op_eq (pv 1) (pe_glob (v := .int (1)) rfl one.choose_spec ⟨_, rfl⟩) (nomark _)) (pw_or1 (pt_cmpR op_eq (pv 2) (pv 3) (nomark _))))) (pss_cons (ps_ret (pv 2)) pss_nil) pss_nil)
        (pss_cons (ps_if (pt_cmpR op_eq (pv 1) (pe_glob (v := .int (0)) rfl zero.choose_spec ⟨_, rfl⟩) (nomark _)) (pss_cons (ps_ret (pv 3)) pss_nil) pss_nil)
        (pss_cons (ps_if (pt_cmp (pc_dnotin (hu_of hr) (pe_tup (pa_cons (pv 1) (pa_cons (pv 2) (pa_cons (pv 3) pa_nil)))) (pe_fld (pv 0) rfl)))
          (pss_cons (ps_asg (pe_meth (E := E) (pv 0) T.cl C_D_top.me C_D_top.ok hr1 C_D_top.bd .nil (passes_call tk (fun _ _ _ _ h => h)) (pa_cons (pe_lst (pa_cons (pv 1) (pa_cons (pv 2) (pa_cons (pv 3) pa_nil)))) pa_nil)) (pg_name (i := 4) scD_chosen.nd rfl (by first | exact Or.inl rfl | exact Or.inr rfl)))
          (pss_cons (ps_asg (pe_lst pa_nil) (pg_name (i := 5) scD_chosen.nd rfl (by first | exact Or.inl rfl | exact Or.inr rfl)))
          (pss_cons (ps_for (passes_of rfl) rfl (pi_range1 rfl nrange (pa_cons pe_int pa_nil)) (pg_name (i := 6) scD_chosen.nd rfl (by first | exact Or.inl rfl | exact Or.inr rfl))
            (pss_cons (ps_setLc (i := 7) (own := [("number", 8)]) rfl scD_chosen.nd rfl rfl (sw_true rfl rfl rfl (by decide +kernel)) (pi_tup (pe_tup (pa_cons (pv 1) (pa_cons (pv 2) (pa_cons (pv 3) pa_nil))))) (blkOk_by (own := [("number", 8)]) (N := ND_chosen) (sc := defScope sD_chosen) (by decide +kernel)) (fun _ _ _ _ _ => (pg_name (i := 8) scD_chosen.nd rfl (by first | exact Or.inl rfl | exact Or.inr rfl))) (fun _ _ _ _ _ => pts_nil) (fun _ _ _ _ _ => (pe_meth (E := E0) (pv 0) T.cl C_D_side.me C_D_side.ok hr1 C_D_side.bd .nil passL (pa_cons (pv 8) (pa_cons (pv 4) (pa_cons (pv 6) pa_nil))))))
            (pss_cons (ps_expr (show PE _ _ (tBM K "list" rAppend _ _) from pe_bm PySem.F.plainAttrs_list PySem.F.slot_list_append PySem.F.type_list_append mt_append (pv 5) (pa_cons (pe_meth (E := E) (pv 0) T.cl me ih hr bd .nil (passes_call tk (fun _ _ _ _ h => h)) (pa_cons (pe_ix (r := rIxL K) ix_list (pv 7) pe_int (fun _ _ => rfl)) (pa_cons (pe_ix (r := rIxL K) ix_list (pv 7) pe_int (fun _ _ => rfl)) (pa_cons (pe_ix (r := rIxL K) ix_list (pv 7) pe_int (fun _ _ => rfl)) pa_nil)))) pa_nil))) pss_nil)))
          (pss_cons (ps_dput (hu_of hr) (pe_fld (pv 0) rfl) (pe_tup (pa_cons (pv 1) (pa_cons (pv 2) (pa_cons (pv 3) pa_nil)))) (pe_meth (E := E) (pv 0) T.cl Cf.me Cf.ok hr1 Cf.bd .nil (passes_call tk (fun _ _ _ _ h => h)) (pa_cons (pv 4) (pa_cons (pe_ix (r := rIxL K) ix_list (pv 5) pe_int (fun _ _ => rfl)) (pa_cons (pe_ix (r := rIxL K) ix_list (pv 5) pe_int (fun _ _ => rfl)) pa_nil)))) rfl) pss_nil)))) pss_nil)
        (pss_cons (ps_ret (pe_dget (hu_of hr) (pe_fld (pv 0) rfl) (pe_tup (pa_cons (pv 1) (pa_cons (pv 2) (pa_cons (pv 3) pa_nil)))) (fun _ _ => rfl))) pss_nil)))), ?_⟩
      have hm : Wp (mD_chosen (n + 1) d p_f p_g p_h) _ _ := hm
      unfold mD_chosen at hm
      have ek : ∀ {fm : Fm} {σ : L2.St} {G : Hp} {O : Own}, σ[1]? = some (some (.int p_f)) → σ[2]? = some (some (.int p_g)) → σ[3]? = some (some (.int p_h)) → EvE K fm (tTup (tCons (tVar 1) (tCons (tVar 2) (tCons (tVar 3) tNil)))) σ G O (rX kt3) (key3 p_f p_g p_h) := fun a1 a2 a3 =>
        e_tup3 (e_var (K := K) (i := 1) (R := zI) (x := p_f) a1 rfl) (e_var (K := K) (i := 2) (R := zI) (x := p_g) a2 rfl) (e_var (K := K) (i := 3) (R := zI) (x := p_h) a3 rfl)
      refine (show (_ : TS) _ ([some (.ref p), some (.int p_f), some (.int p_g), some (.int p_h), none, none, none, none, none] : L2.St) _ from ?_)
      refine w_if (t_or (t_test (K := K) (e_eq srI (e_var (K := K) (i := 1) (R := zI) (x := p_f) rfl rfl) e_int)) (t_test (K := K) (e_eq srI (e_var (K := K) (i := 2) (R := zI) (x := p_g) rfl rfl) (e_var (K := K) (i := 3) (R := zI) (x := p_h) rfl rfl)))) hs hm (fun G1 H1 e1 hs hm => ?_) (fun G1 H1 e1 hs hm => ?_)
      · exact w_retS (K := K) (m := .ok p_g) (kr := fun r => (r, d)) (e_var (K := K) (i := 2) (R := zI) (x := p_g) rfl rfl) hs hm fun r v G2 H2 e2 hs2 hr2 hq => hq v G2 _ H2 hs2 (obD_mono _ _ _ _ _ (e1.trans e2) ob) rfl hr2
      · have ob := obD_mono _ _ _ _ _ e1 ob
        have hN := RLs.mono e1 hN
        have hM := RKt.mono e1 hM
        have hC := RKt.mono e1 hC
        refine nx_of ?_
        refine (show (_ : TS) _ ([some (.ref p), some (.int p_f), some (.int p_g), some (.int p_h), none, none, none, none, none] : L2.St) _ from ?_)
        refine w_if (t_test (K := K) (e_eq srI (e_var (K := K) (i := 1) (R := zI) (x := p_f) rfl rfl) e_int)) hs hm (fun G2 H2 e2 hs hm => ?_) (fun G2 H2 e2 hs hm => ?_)
        · exact w_retS (K := K) (m := .ok p_h) (kr := fun r => (r, d)) (e_var (K := K) (i := 3) (R := zI) (x := p_h) rfl rfl) hs hm fun r v G3 H3 e3 hs2 hr2 hq => hq v G3 _ H3 hs2 (obD_mono _ _ _ _ _ (e2.trans e3) ob) rfl hr2
        · have ob := obD_mono _ _ _ _ _ e2 ob
          have hN := RLs.mono e2 hN
          have hM := RKt.mono e2 hM
          have hC := RKt.mono e2 hC
          refine nx_of ?_
          refine (show (_ : TS) _ ([some (.ref p), some (.int p_f), some (.int p_g), some (.int p_h), none, none, none, none, none] : L2.St) _ from ?_)
          refine w_if (t_val (K := K) (e_dninT (v_fld (v_var rfl) (List.mem_of_getElem? (i := 0) rfl) T.cl T.n_choices lk_choices) (List.mem_of_getElem? (i := 3) rfl) hC (ek rfl rfl rfl))) hs hm (fun G3 H3 e3 hs hm => ?_) (fun G3 H3 e3 hs hm => ?_)
          · have ob := obD_mono _ _ _ _ _ e3 ob
            have hN := RLs.mono e3 hN
            refine w_asg (K := K) (tg_name (i := 4) (R := zI)) (e_lendD (C := C) sc_I (List.mem_of_getElem? (i := 0) rfl) (List.mem_of_getElem? (i := 1) rfl) (e_methR (fm := ⟨F1, G, E, cl⟩) (f := fun x => m_D_top x.1 x.2) (fun _ _ _ _ => rfl) (e_var (K := K) (i := 0) (R := rDn C) (x := (d.1, d.2.nodes)) rfl (lentD (hs.ne 1 0 rfl rfl (by decide)) (lentSame hs rfl rfl) hN))
              (a_one (EvN.evK (e_lst (l_cons (e_var (K := K) (i := 1) (R := zI) (x := p_f) rfl rfl) (l_cons (e_var (K := K) (i := 2) (R := zI) (x := p_g) rfl rfl) (l_cons (e_var (K := K) (i := 3) (R := zI) (x := p_h) rfl rfl) l_nil))) (by decide)))))) hs hm (fun p_top vv G4 H4 e4 hs hv hm => ?_)
            obtain ⟨v_top, rfl, h_top⟩ := hv
            cases (show v_top = V.int p_top from h_top)
            have ob := obD_mono _ _ _ _ _ e4 ob
            refine (show (_ : TS) _ ([some (.ref p), some (.int p_f), some (.int p_g), some (.int p_h), some (.int p_top), none, none, none, none] : L2.St) _ from ?_)
            refine w_asgN (K := K) (R := zI) (i := 5) (m := .ok []) (mk := fun sd => ((Res.bind (rng1M (.ok (2 : Int))) fun xs => forM (mD_chosen_b (mD_chosen n) p_f p_g p_h p_top) xs (sd, d)).bind fun x =>
              ((pairM (.ok p_top) (pairM (idxM (.ok x.1) (.ok 0)) (idxM (.ok x.1) (.ok 1)))).bind fun a => mD_found x.2 a.1 a.2.1 a.2.2).bind fun y =>
              dputM y.2.2.chs (key3 p_f p_g p_h) (.ok y.1) fun chs => (dgetM chs (key3 p_f p_g p_h)).bind fun r => .ok (r, (y.2.1, (⟨y.2.2.nodes, y.2.2.nums, chs⟩ : Bd.Dg))))) (e_lst l_nil (by decide)) hs hm (fun sd ps vsd G5 H5 e5 hs hSd hm => ?_)
            have ob := obD_mono _ _ _ _ _ e5 ob
            refine (show (_ : TS) _ ([some (.ref p), some (.int p_f), some (.int p_g), some (.int p_h), some (.int p_top), some (.ref ps), none, none, none] : L2.St) _ from ?_)
            refine w_forM (K := K) (fun (x : List Int × Sd) (σ : L2.St) (G : Hp) (O : Own) => ∃ (vss : List V) (v6 v7 v8 : Option V) (O1 : Own), σ = [some (.ref p), some (.int p_f), some (.int p_g), some (.int p_h), some (.int p_top), some (.ref ps), v6, v7, v8] ∧ O = (ps, .lst vss) :: O1 ∧ RLs zI K G vss x.1 ∧ ObD K C x.2 (.ref p) G O1 ∧ O1.map (·.1) = [p, l, a, b])
              (i_rng1 e_int) (fun _ _ _ _ _ _ h => nomatch h) (tg_name (i := 6) (R := zI)) hs hm ⟨vsd, none, none, none, _, rfl, rfl, hSd, ob, rfl⟩ (fun p_bit x σ_ G6_ G6 O_ H6 vv D6 Qb6 e6 w_ e16 hs hv E6 hm => ?_) (fun x σ_ G6_ G6 O_ H6 e6 w_ e16 hs hm => ?_)
            · obtain ⟨vss, v6, v7, v8, O1, rfl, rfl, hSx, obx, hO1⟩ := w_
              obtain ⟨v_bit, rfl, h_bit⟩ := hv
              cases (show v_bit = V.int p_bit from h_bit)
              have hSx := RLs.mono e16 hSx
              have obx := obD_mono _ _ _ _ _ e16 obx
              unfold mD_chosen_b at hm
              by_cases hlen : x.1.length < lim
              · rw [if_pos hlen] at hm
                have obx' := obx
                obtain ⟨p', dx', l', a', b', vs', kn', kc', epp, rfl, hN', hM', hC'⟩ := obx'
                cases epp
                refine (show (_ : TS) _ ([some (.ref p), some (.int p_f), some (.int p_g), some (.int p_h), some (.int p_top), some (.ref ps), some (.int p_bit), v7, v8] : L2.St) _ from ?_)
                have hL := lentSameAt 1 2 (by decide) hs rfl rfl
                refine w_asgN (K := K) (i := 7) (n_lend sc_I (List.mem_of_getElem? (i := 2) rfl) (n_lend sc_I (List.mem_of_getElem? (i := 1) rfl) (n_lc (S := zI) (i_tup (e_tupT (l_cons (e_var (K := K) (i := 1) (R := zI) (x := p_f) rfl rfl) (l_cons (e_var (K := K) (i := 2) (R := zI) (x := p_g) rfl rfl) (l_cons (e_var (K := K) (i := 3) (R := zI) (x := p_h) rfl rfl) l_nil))) (by decide))) (fun _ h => nomatch h) (tg_name (i := 8) (R := zI)) (by decide) (fun x1 vs1 G1 e1 hv1 => by
                  obtain ⟨v1_p_number, rfl, h1_p_number⟩ := hv1
                  exact ⟨t_yes, (e_methR (fm := ⟨F1, G, E0, cl⟩) (f := fun x => m_D_side x.1 (x.2.1) (x.2.2.1) (x.2.2.2)) (fun _ _ _ _ => rfl) (e_var (K := K) (i := 0) (R := (rDn C)) (x := (x.2.1, x.2.2.nodes)) rfl (((rDn C)).mono e1 (lentD (hs.ne 2 1 rfl rfl (by decide)) hL hN'))) (a_cons (e_var (K := K) (i := 8) (R := zI) (x := x1) rfl h1_p_number) (a_cons (e_var (K := K) (i := 4) (R := zI) (x := p_top) rfl rfl) (a_one (e_var (K := K) (i := 6) (R := zI) (x := p_bit) rfl rfl)))))⟩)))) hs hm (fun parts pp vsp G7 H7 e7 hs hP hm => ?_)
                have hSx := RLs.mono e7 hSx
                have obx := obD_mono _ _ _ _ _ e7 obx
                refine (show (_ : TS) _ ([some (.ref p), some (.int p_f), some (.int p_g), some (.int p_h), some (.int p_top), some (.ref ps), some (.int p_bit), some (.ref pp), v8] : L2.St) _ from ?_)
                refine w_appM (K := K) (R := zI) (La := [(pp, .lst vsp), (ps, .lst vss)]) (Lb := []) (i := 5) (xs := x.1) rfl (List.mem_of_getElem? (i := 1) rfl) hlen (Paired.length hSx) (m_meth (fm := ⟨F1, G, E, cl⟩) (d := x.2) (La := [(pp, .lst vsp), (ps, .lst vss)]) (Lb := []) obD_mono (v_var rfl) (List.mem_of_getElem? (i := 2) rfl) rfl
                  (a_cons (e_ixO (i := 7) (l := pp) rfl (List.mem_of_getElem? (i := 0) rfl) hP e_int) (a_cons (e_ixO (i := 7) (l := pp) rfl (List.mem_of_getElem? (i := 0) rfl) hP e_int) (a_one (e_ixO (i := 7) (l := pp) rfl (List.mem_of_getElem? (i := 0) rfl) hP e_int))))) hs obx hm (fun y v G8 O8 H8 e8 hs8 ob8 ea rv hq => ?_)
                refine nx_of ?_
                have hs9 := (hs8.set 1 (a := ps) (o := .lst vss) (o' := .lst (vss ++ [v])) rfl).drop 0
                have e9 : ((([(pp, HO.lst vsp), (ps, HO.lst vss)] ++ (O8 ++ [])).set 1 (ps, HO.lst (vss ++ [v]))).eraseIdx 0) = (ps, HO.lst (vss ++ [v])) :: O8 := by simp
                rw [e9] at hs9
                exact E6.nx (x.1 ++ [y.1], y.2) _ _ _ _ _ (e7.trans e8) ⟨vss ++ [v], _, _, _, O8, rfl, rfl, paired_app (hSx.mono e8) (.cons rv .nil), ob8, by rw [ea]; exact hO1⟩ (Same.refl _) hs9 hq.out
              · rw [if_neg hlen] at hm
                exact hm.out.elim
            · obtain ⟨vss, v6, v7, v8, O1, rfl, rfl, hSx, obx, hO1⟩ := w_
              have hSx := RLs.mono e16 hSx
              have obx := obD_mono _ _ _ _ _ e16 obx
              have obx' := obx
              obtain ⟨p', dx', l', a', b', vs', kn', kc', epp, rfl, hN', hM', hC'⟩ := obx'
              cases epp
              refine (show (_ : TS) _ ([some (.ref p), some (.int p_f), some (.int p_g), some (.int p_h), some (.int p_top), some (.ref ps), v6, v7, v8] : L2.St) _ from ?_)
              refine m_meth (fm := ⟨F1, G, E, cl⟩) (K := K) (R := zI) (d := x.2) (La := [(ps, .lst vss)]) (Lb := []) obD_mono (v_var rfl) (List.mem_of_getElem? (i := 1) rfl) rfl
                (a_cons (e_var (K := K) (i := 4) (R := zI) (x := p_top) rfl rfl) (a_cons (e_ixO (i := 5) (l := ps) rfl (List.mem_of_getElem? (i := 0) rfl) hSx e_int) (a_one (e_ixO (i := 5) (l := ps) rfl (List.mem_of_getElem? (i := 0) rfl) hSx e_int)))) _ hs obx _ (Res.wp_mono (Res.wp_bind hm.out) (fun y q v G7 O7 H7 e7 hs7 ob7 ea rv => ?_) fun _ _ z => z)
              obtain ⟨p2, dx2, l2, a2, b2, vs2, kn2, kc2, epp2, rfl, hN2, hM2, hC2⟩ := ob7
              cases epp2
              refine (v_fld (v_var rfl) (List.mem_of_getElem? (i := 1) rfl) T.cl T.n_choices lk_choices) G7 H7 (Same.refl _) hs7.kn _ ?_
              refine (ek rfl rfl rfl) G7 H7 (Same.refl _) hs7.kn _ (show ∀ w G2 H2, Stp G7 H7 G2 H2 → (rX kt3).r K G2 w (p_f, p_g, p_h) → _ from fun kv G8 H8 s8 r8 => ?_)
              obtain ⟨kb, rfl, hkb⟩ := r8
              have q := (show Res.wp (if y.2.2.chs.length < lim then (dgetM (dput y.2.2.chs (p_f, p_g, p_h) y.1) (key3 p_f p_g p_h)).bind fun r => Res.ok (r, (y.2.1, (⟨y.2.2.nodes, y.2.2.nums, dput y.2.2.chs (p_f, p_g, p_h) y.1⟩ : Bd.Dg))) else .stuck) _ _ from q)
              by_cases hl : y.2.2.chs.length < lim
              · rw [if_pos hl] at q
                have hs8 := hs7.stp s8
                refine ⟨b2, _, rfl, DPut.t (hs8.at 4 rfl).1 (s8.gh _ _ hkb) (by rw [Paired.length hC2, ← lim_eq]; exact hl), ?_⟩
                have hs9 := hs8.set 4 (a := b2) (o := .dT kc2) (o' := .dT (putK kc2 (kt3.enc (p_f, p_g, p_h)) v)) rfl
                have hC9 := RKt.put (hC2.mono s8.gg) (p_f, p_g, p_h) (R := zI) (b := y.1) (v := v) rv
                have hN9 := RLs.mono s8.gg hN2
                have hM9 := RKt.mono s8.gg hM2
                refine nx_of ?_
                refine nx_of ?_
                refine (show (_ : TS) _ ([some (.ref p), some (.int p_f), some (.int p_g), some (.int p_h), some (.int p_top), some (.ref ps), v6, v7, v8] : L2.St) _ from ?_)
                exact w_retS (K := K) (kr := fun r => (r, (y.2.1, (⟨y.2.2.nodes, y.2.2.nums, dput y.2.2.chs (p_f, p_g, p_h) y.1⟩ : Bd.Dg)))) (e_dgetT (v_fld (v_var rfl) (List.mem_of_getElem? (i := 1) rfl) T.cl T.n_choices lk_choices) (List.mem_of_getElem? (i := 4) rfl) hC9 (ek rfl rfl rfl)) hs9 (.mk q) fun r v G9 H9 e9 hs10 hr2 hq => hq v G9 _ H9 (hs10.drop 0) ⟨p, dx2, l2, a2, b2, vs2, kn2, _, rfl, rfl, hN9.mono e9, hM9.mono e9, hC9.mono e9⟩ (by simpa using ea.trans hO1) hr2
              · rw [if_neg hl] at q
                exact q.elim
          · have hN := RLs.mono e3 hN
            have hM := RKt.mono e3 hM
            have hC := RKt.mono e3 hC
            refine nx_of ?_
            refine (show (_ : TS) _ ([some (.ref p), some (.int p_f), some (.int p_g), some (.int p_h), none, none, none, none, none] : L2.St) _ from ?_)
            exact w_retS (K := K) (kr := fun r => (r, d)) (e_dgetT (v_fld (v_var rfl) (List.mem_of_getElem? (i := 0) rfl) T.cl T.n_choices lk_choices) (List.mem_of_getElem? (i := 3) rfl) hC (ek rfl rfl rfl)) hs hm fun r v G6 H6 e6 hs2 hr2 hq => hq v G6 _ H6 hs2 ⟨p, dx, l, a, b, vs, kn, kc, rfl, rfl, hN.mono e6, hM.mono e6, hC.mono e6⟩ rfl hr2
end
theorem put1 {c : Int} : putF "_count" (.int c) [] = [(("_count" : Str), V.int c)] := by rfl
theorem put2 {c : Int} {l : Addr} : putF "_nodes" (.ref l) [(("_count" : Str), V.int c)] = [(("_count" : Str), V.int c), ("_nodes", .ref l)] := by rfl
theorem put3 {c : Int} {l a : Addr} : putF "_numbers" (.ref a) [(("_count" : Str), V.int c), ("_nodes", .ref l)] = [(("_count" : Str), V.int c), ("_nodes", .ref l), ("_numbers", .ref a)] := by rfl
theorem put4 {c : Int} {l a b : Addr} : putF "_choices" (.ref b) [(("_count" : Str), V.int c), ("_nodes", .ref l), ("_numbers", .ref a)] = dflds c l a b := by rfl
abbrev sD_init : Stmt := inClass (top 10) 0
theorem scD_init : FnScope ["self", "count"] ["self", "count"] (defScope sD_init) := ⟨rfl, rfl, rfl, by decide +kernel, rfl, by decide +kernel, by decide +kernel⟩
section
variable {P : Program} {w : World} {K : PySem.W.Frag} {mg : Str → Option Value} {base : Heap} {cl : Nat → Addr} {fa C : Addr} {fd : FuncData}
theorem okD_init (F : Fun K "__init__" "Diagrams.__init__" sD_init fa fd) (T : DFacts K C) : FnOk P w K mg base (L2.CX P w) 1 fa fd ["self", "count"] (spInit K cl C) := by
  refine F.okX scD_init (fun vs H Q E h => ?_) (fun cdv A outer s H vs Q E hr h => ?_)
  · obtain ⟨F1, G, p, dx, c, rfl, _⟩ := h
    rfl
  · obtain ⟨F1, G, p, dx, c, rfl, hs, hq⟩ := h
    refine ⟨_, pss_cons (ps_fld (pv 0) (pv 1) rfl) (pss_cons (ps_fld (pv 0) (pe_lst (pa_cons pe_non (pa_cons pe_non pa_nil))) rfl) (pss_cons (ps_fld (pv 0) pe_dnewT rfl) (pss_cons (ps_fld (pv 0) pe_dnewT rfl) pss_nil))), ?_⟩
    refine (show (_ : TS) _ ([some (.ref p), some (.int c)] : L2.St) _ from ?_)
    refine w_fldV (K := K) (R := zI) (m := .ok c) (mk := fun x => (.ok x : Res Int)) (Q := fun x => x = c) 0 (v_var rfl) rfl T.cl T.n_count (by decide) (e_var (K := K) (i := 1) (R := zI) (x := c) rfl rfl) hs (.mk (show c = c from rfl)) (fun x v G1 H1 e1 hs hv hm => ?_)
    cases (show v = V.int x from hv)
    cases (show x = c from hm.out)
    rw [put1] at hs
    refine w_fldN (K := K) (R := rO (rX kt3)) (mk := fun x => (.ok x : Res (List (Option Nt)))) (Q := fun x => x = [none, none]) 0 (v_var rfl) rfl T.cl T.n_nodes (by show 1 < 1000; decide) (e_lst (l_cons (e_nonO (R := rX kt3)) (l_cons (e_nonO (R := rX kt3)) l_nil)) (by decide)) hs (.mk (show ([none, none] : List (Option Nt)) = [none, none] from rfl)) (fun x l vs G2 H2 e2 hs hv hm => ?_)
    cases (show x = [none, none] from hm.out)
    rw [put2] at hs
    refine w_fldT (K := K) (mm := (.ok () : Res Unit)) (Q := fun _ => True) 1 (v_var rfl) rfl T.cl T.n_numbers (by show 2 < 1000; decide) hs (.mk True.intro) (fun a H3 hs _ => ?_)
    rw [put3] at hs
    refine w_fldT (K := K) (mm := (.ok () : Res Unit)) (Q := fun _ => True) 2 (v_var rfl) rfl T.cl T.n_choices (by show 3 < 1000; decide) hs (.mk True.intro) (fun b H4 hs _ => ?_)
    rw [put4] at hs
    refine nx_of ?_
    refine hq G2 [(p, .ins C dx (dflds c l a b)), (l, .lst vs), (a, .dT []), (b, .dT [])] H4 (hs.perm ?_) ⟨p, dx, l, a, b, vs, [], [], rfl, rfl, hv, .nil, .nil⟩
    refine List.Perm.trans (l₂ := [(b, HO.dT []), (a, HO.dT []), (l, HO.lst vs), (p, HO.ins C dx (dflds c l a b))]) ?_ (List.Perm.refl _)
    exact (List.reverse_perm [(p, HO.ins C dx (dflds c l a b)), (l, HO.lst vs), (a, HO.dT []), (b, HO.dT [])]).symm
end
end G84

/-! the mirrors of Diagrams are Bd's operations -/
namespace Dgo
open PySem L2 Mw Bd
section
variable {c : Int} {d : Dg} {k : Int}
theorem node_at (D : Ok c d) {i : Int} (h : 2 ≤ i) (hl : i < d.nodes.length) : ∃ v lo hi, gx d.nodes i = some (v, lo, hi) ∧ Bd.vr d i = v ∧ Res.bind (idxM (.ok d.nodes) (.ok i)) getM = .ok (v, lo, hi) := by
  obtain ⟨v, lo, hi, e, _⟩ := D.node i h hl
  exact ⟨v, lo, hi, e, D.vr_node h e, by rw [idxM_gx (by omega) hl, e]; rfl⟩
theorem side_ok (D : Ok c d) {n v bit : Int} (hv : Va d n) (hb : bit = 0 ∨ bit = 1) : m_D_side (k, d.nodes) n v bit = .ok (Bd.side d n v bit) := by
  unfold m_D_side Bd.side
  by_cases h1 : n ≤ 1
  · have : leM (.ok n) (.ok (1 : Int)) = .ok true := by show Res.ok (decide (n ≤ 1)) = _; rw [decide_eq_true h1]
    rw [this, orM_ok, if_pos rfl, if_pos h1]; rfl
  · have : leM (.ok n) (.ok (1 : Int)) = .ok false := by show Res.ok (decide (n ≤ 1)) = _; rw [decide_eq_false h1]
    obtain ⟨w, lo, hi, e, ev, er⟩ := node_at D (by omega) hv.2
    rw [this, orM_ok, if_neg (by simp), if_neg h1, Res.bind_ok, er, Res.bind_ok, ev, e]
    have hne : neM (.ok w) (.ok v) = .ok (!decide (w = v)) := rfl
    rw [hne, bif_eq]
    by_cases h2 : w = v
    · rw [decide_eq_true h2, if_neg (by simp), if_neg (by simp [h2])]
      rcases hb with rfl | rfl
      · rfl
      · rfl
    · rw [decide_eq_false h2, if_pos (by rfl), if_pos h2]
theorem top_ok (D : Ok c d) {f g h : Int} (hf : Va d f) (hg : Va d g) (hh : Va d h) (h2 : 2 ≤ f) : m_D_top (k, d.nodes) [f, g, h] = .ok (top3 d f g h) := by
  unfold m_D_top
  have hx : ∀ x, x ∈ [f, g, h] → Va d x := by
    intro x hx
    simp only [List.mem_cons, List.not_mem_nil, or_false] at hx
    rcases hx with rfl | rfl | rfl <;> assumption
  have e : lcB (fun (x1 : Int) => gtM (.ok x1) (.ok (1 : Int))) (fun (x1 : Int) => (Res.bind (Res.bind (idxM (Res.bind (.ok ((k, d.nodes) : Int × List (Option Nt))) fun s => .ok s.2) (.ok x1)) getM) fun a => .ok a.1)) (.ok [f, g, h]) = .ok (([f, g, h].filter fun x => decide (1 < x)).map (Bd.vr d)) := by
    refine lcB_ok (fun x => decide (1 < x)) (Bd.vr d) (by simp) (fun x _ => rfl) (fun x hm hp => ?_)
    have hp : 1 < x := of_decide_eq_true hp
    obtain ⟨w, lo, hi, e, ev, er⟩ := node_at D (show 2 ≤ x by omega) (hx x hm).2
    rw [Res.bind_ok, er, Res.bind_ok, ev]
  rw [e]
  unfold maxM
  rw [Res.bind_ok]
  have hne : (([f, g, h].filter fun x => decide (1 < x)).map (Bd.vr d)) ≠ [] := by
    intro q
    have : Bd.vr d f ∈ (([f, g, h].filter fun x => decide (1 < x)).map (Bd.vr d)) := List.mem_map.mpr ⟨f, List.mem_filter.mpr ⟨by simp, decide_eq_true (by omega)⟩, rfl⟩
    rw [q] at this
    cases this
  rw [if_neg hne]
  obtain ⟨hm, hu⟩ := maxL_mem hne
  congr 1
  have vf := (D.vr_ge hf).2.2 h2
  have up : ∀ x, x ∈ [f, g, h] → Bd.vr d x ≤ maxL (([f, g, h].filter fun x => decide (1 < x)).map (Bd.vr d)) := fun x hxm => by
    by_cases q : 1 < x
    · exact hu _ (List.mem_map.mpr ⟨x, List.mem_filter.mpr ⟨hxm, decide_eq_true q⟩, rfl⟩)
    · have := hu _ (List.mem_map.mpr ⟨f, List.mem_filter.mpr ⟨by simp, decide_eq_true (by omega)⟩, rfl⟩)
      rw [vr_lo (by omega)]
      omega
  obtain ⟨x, hxm, ex⟩ := List.mem_map.mp hm
  have hxm := (List.mem_filter.mp hxm).1
  have u1 := up f (by simp)
  have u2 := up g (by simp)
  have u3 := up h (by simp)
  rw [← ex] at u1 u2 u3 ⊢
  unfold top3
  simp only [List.mem_cons, List.not_mem_nil, or_false] at hxm
  rcases hxm with rfl | rfl | rfl <;> omega
theorem check_ok {ns : List Int} (h : ∀ x ∈ ns, Va d x) : m_D_check (k, d.nodes) ns = .ok () := by
  unfold m_D_check
  rw [Res.bind_ok]
  have : Mw.forM (m_D_check_b3 (k, d.nodes)) ns () = .ok () := by
    induction ns with
    | nil => rfl
    | cons x xs ih =>
      rw [Mw.forM]
      have hx := h x (by simp)
      have e : m_D_check_b3 (k, d.nodes) x () = .ok () := by
        unfold m_D_check_b3
        have e1 : chainM (fun i j => decide (i ≤ j)) (fun i j => decide (i < j)) (.ok (0 : Int)) (.ok x) (lenM (Res.bind (.ok ((k, d.nodes) : Int × List (Option Nt))) fun s => .ok s.2)) = .ok true := by
          show (if decide ((0 : Int) ≤ x) = true then Res.ok (decide (x < (d.nodes.length : Int))) else .ok false) = .ok true
          rw [if_pos (decide_eq_true hx.1), decide_eq_true hx.2]
        rw [e1]
        rfl
      rw [e, Res.bind_ok]
      exact ih fun y hy => h y (by simp [hy])
  rw [this]
  rfl
theorem check_no {x : Int} (h : ¬ Va d x) (xs : List Int) : m_D_check (k, d.nodes) (x :: xs) = .exc 0 [] := by
  unfold m_D_check
  rw [Res.bind_ok, Mw.forM]
  have e : m_D_check_b3 (k, d.nodes) x () = .exc 0 [] := by
    unfold m_D_check_b3
    have e1 : chainM (fun i j => decide (i ≤ j)) (fun i j => decide (i < j)) (.ok (0 : Int)) (.ok x) (lenM (Res.bind (.ok ((k, d.nodes) : Int × List (Option Nt))) fun s => .ok s.2)) = .ok false := by
      show (if decide ((0 : Int) ≤ x) = true then Res.ok (decide (x < (d.nodes.length : Int))) else .ok false) = .ok false
      by_cases h0 : 0 ≤ x
      · rw [if_pos (decide_eq_true h0), decide_eq_false (fun q => h ⟨h0, q⟩)]
      · rw [if_neg (by simp [h0])]
    rw [e1]
    rfl
  rw [e]
  rfl
theorem found_ok {v lo hi : Int} (h1 : d.nodes.length < lim) (h2 : d.nums.length < lim) (D : Ok c d) : mD_found (k, d) v lo hi = .ok ((Bd.found d v lo hi).1, (k, (Bd.found d v lo hi).2)) := by
  unfold mD_found Bd.found
  have e : eqM (.ok lo) (.ok hi) = .ok (decide (lo = hi)) := rfl
  rw [e, bif_eq]
  by_cases q : lo = hi
  · rw [if_pos (decide_eq_true q), if_pos q]
  · rw [if_neg (by simp [q]), if_neg q, Res.bind_ok]
    have e2 : notM (dinM ((k, d) : Sd).2.nums (.ok (v, lo, hi))) = .ok (!(dget d.nums (v, lo, hi)).isSome) := rfl
    rw [e2, bif_eq]
    cases hg : dget d.nums (v, lo, hi) with
    | some n =>
      rw [if_neg (by simp)]
      show (Res.bind (optM (dget d.nums (v, lo, hi))) _) = _
      rw [hg]; rfl
    | none =>
      rw [if_pos (show (!(none : Option Int).isSome) = true from rfl)]
      show (if d.nums.length < lim then _ else Res.stuck) = _
      rw [if_pos h2]
      show (if d.nodes.length < lim then _ else Res.stuck) = _
      rw [if_pos h1]
      show (Res.bind (optM (dget (dput d.nums (v, lo, hi) (d.nodes.length : Int)) (v, lo, hi))) _) = _
      rw [dput_new _ hg, dget_app hg, if_pos rfl]
      rfl
theorem dget_map {κ β : Type} [DecidableEq κ] {k : κ} (v : β) : ∀ xs : List (κ × β), (xs.any fun p => decide (p.1 = k)) = true → dget (xs.map fun p => if p.1 = k then (p.1, v) else p) k = some v
  | [], h => by cases h
  | p :: xs, h => by
    unfold dget
    rw [List.map_cons, List.find?_cons]
    by_cases e : p.1 = k
    · simp [e]
    · rw [if_neg e, decide_eq_false e]
      exact dget_map v xs (by simpa [e] using h)
theorem dget_dput_any {κ β : Type} [DecidableEq κ] {xs : List (κ × β)} {k : κ} (v : β) : dget (dput xs k v) k = some v := by
  by_cases h : (xs.any fun p => decide (p.1 = k)) = true
  · unfold dput
    rw [if_pos h]
    exact dget_map v xs h
  · have hn : dget xs k = none := by
      unfold dget
      rw [List.find?_eq_none.mpr]
      · rfl
      · intro p hp q
        exact h (List.any_eq_true.mpr ⟨p, hp, q⟩)
    rw [dput_new v hn, dget_app hn, if_pos rfl]
theorem dget_dput {κ β : Type} [DecidableEq κ] {xs : List (κ × β)} {k : κ} {v : β} (h : dget xs k = none) : dget (dput xs k v) k = some v := by
  rw [dput_new v h, dget_app h, if_pos rfl]
theorem chosen_ok : ∀ (n m : Nat) (d : Dg) (f g h : Int), n ≤ m → Ok c d → Ch d → Va d f → Va d g → Va d h → top3 d f g h + 2 ≤ (n : Int) → d.nodes.length + 2 ^ n ≤ lim → d.nums.length + 2 ^ n ≤ lim → d.chs.length + 2 ^ n ≤ lim →
    ∃ r d', mD_chosen m (k, d) f g h = .ok (r, (k, d')) ∧ chosen n d f g h = some (r, d')
  | 0, m, d, f, g, h, _, D, C, hf, hg, hh, ht, _, _, _ => by
    have := (D.vr_ge hf).1
    unfold top3 at ht
    omega
  | n + 1, 0, d, f, g, h, hnm, _, _, _, _, _, _, _, _, _ => by omega
  | n + 1, m + 1, d, f, g, h, hnm, D, C, hf, hg, hh, ht, b1, b2, b3 => by
    have p2 : 0 < 2 ^ n := Nat.pow_pos (by decide)
    have e2 : 2 ^ (n + 1) = 2 * 2 ^ n := by rw [Nat.pow_succ]; omega
    have l0 := D.len
    unfold mD_chosen Bd.chosen
    have o1 : orM (eqM (.ok f) (.ok (1 : Int))) (eqM (.ok g) (.ok h)) = .ok (decide (f = 1 ∨ g = h)) := by
      show (if decide (f = 1) = true then Res.ok true else .ok (decide (g = h))) = _
      by_cases q : f = 1
      · rw [if_pos (decide_eq_true q), decide_eq_true (Or.inl q)]
      · rw [if_neg (by simp [q])]
        congr 1
        exact decide_eq_decide.mpr ⟨Or.inr, fun z => z.resolve_left q⟩
    rw [o1, bif_eq]
    by_cases h1 : f = 1 ∨ g = h
    · rw [if_pos (decide_eq_true h1), if_pos h1]
      exact ⟨g, d, rfl, rfl⟩
    · rw [if_neg (by simpa using h1), if_neg h1]
      have o2 : eqM (.ok f) (.ok (0 : Int)) = .ok (decide (f = 0)) := rfl
      rw [o2, bif_eq]
      by_cases h0 : f = 0
      · rw [if_pos (decide_eq_true h0), if_pos h0]
        exact ⟨h, d, rfl, rfl⟩
      · rw [if_neg (by simpa using h0), if_neg h0]
        have o3 : notM (dinM ((k, d) : Sd).2.chs (key3 f g h)) = .ok (!(dget d.chs (f, g, h)).isSome) := rfl
        rw [o3, bif_eq]
        cases hc : dget d.chs (f, g, h) with
        | some r =>
          rw [if_neg (by simp)]
          refine ⟨r, d, ?_, rfl⟩
          show (Res.bind (optM (dget d.chs (f, g, h))) _) = _
          rw [hc]; rfl
        | none =>
          rw [if_pos (show (!(none : Option Int).isSome) = true from rfl)]
          dsimp only
          have hf2 : 2 ≤ f := by have := hf.1; omega
          have vf := (D.vr_ge hf).2.2 hf2
          have vg := (D.vr_ge hg)
          have vh := (D.vr_ge hh)
          have t0 : 0 ≤ top3 d f g h ∧ top3 d f g h < c := by
            unfold top3
            omega
          have tf : Bd.vr d f ≤ top3 d f g h := by unfold top3; omega
          have tg : Bd.vr d g ≤ top3 d f g h := by unfold top3; omega
          have th : Bd.vr d h ≤ top3 d f g h := by unfold top3; omega
          rw [top_ok D hf hg hh hf2, Res.bind_ok]
          obtain ⟨t, hT⟩ : ∃ t, top3 d f g h = t := ⟨_, rfl⟩
          rw [hT] at ht t0 tf tg th ⊢
          obtain ⟨vaf, vrf, sf⟩ := D.side hf t0.1 tf 0
          obtain ⟨vag, vrg, sg⟩ := D.side hg t0.1 tg 0
          obtain ⟨vah, vrh, sh⟩ := D.side hh t0.1 th 0
          have tt0 : top3 d (Bd.side d f t 0) (Bd.side d g t 0) (Bd.side d h t 0) + 2 ≤ (n : Int) := by unfold top3; omega
          obtain ⟨r0, d1, er0, R0⟩ := Ok.chosen n d _ _ _ D C vaf vag vah tt0
          obtain ⟨r0', d1', em0, er0'⟩ := chosen_ok n m d _ _ _ (by omega) D C vaf vag vah tt0 (by omega) (by omega) (by omega)
          rw [er0] at er0'
          obtain ⟨rfl, rfl⟩ : r0 = r0' ∧ d1 = d1' := by simpa using er0'
          have hf1 := R0.ext.va hf
          have hg1 := R0.ext.va hg
          have hh1 := R0.ext.va hh
          obtain ⟨vaf', vrf', sf'⟩ := R0.ok.side hf1 t0.1 (by rw [R0.ext.vr hf]; exact tf) 1
          obtain ⟨vag', vrg', sg'⟩ := R0.ok.side hg1 t0.1 (by rw [R0.ext.vr hg]; exact tg) 1
          obtain ⟨vah', vrh', sh'⟩ := R0.ok.side hh1 t0.1 (by rw [R0.ext.vr hh]; exact th) 1
          have tt1 : top3 d1 (Bd.side d1 f t 1) (Bd.side d1 g t 1) (Bd.side d1 h t 1) + 2 ≤ (n : Int) := by unfold top3; omega
          have n0 := R0.nl
          have m0 := R0.ml
          have c0 := R0.cl
          obtain ⟨r1, d2, er1, R1⟩ := Ok.chosen n d1 _ _ _ R0.ok R0.ch vaf' vag' vah' tt1
          obtain ⟨r1', d2', em1, er1'⟩ := chosen_ok n m d1 _ _ _ (by omega) R0.ok R0.ch vaf' vag' vah' tt1 (by omega) (by omega) (by omega)
          rw [er1] at er1'
          obtain ⟨rfl, rfl⟩ : r1 = r1' ∧ d2 = d2' := by simpa using er1'
          have n1 := R1.nl
          have m1 := R1.ml
          have c1 := R1.cl
          have v0 : Bd.vr d2 r0 < t := by
            rw [R1.ext.vr R0.va]
            have := R0.vr
            unfold top3 at this
            omega
          have v1 : Bd.vr d2 r1 < t := by
            have := R1.vr
            unfold top3 at this
            omega
          have F := R1.ok.found t0 (R1.ext.va R0.va) R1.va v0 v1
          have FE := found_ok (k := k) (v := t) (lo := r0) (hi := r1) (by omega) (by omega) R1.ok
          have body0 : mD_chosen_b (mD_chosen m) f g h t 0 ([], (k, d)) = .ok ([r0], (k, d1)) := by
            unfold mD_chosen_b
            dsimp only
            rw [if_pos (Nat.lt_trans (show ([] : List Int).length < 1000000 by simp) lim_big)]
            have e : lcB (fun (x1 : Int) => .ok true) (fun (x1 : Int) => (Res.bind (.ok ((k, d.nodes) : Int × List (Option Nt))) fun s => Res.bind (pairM (.ok x1) (pairM (.ok t) (.ok (0 : Int)))) fun a => m_D_side s (a.1) (a.2.1) (a.2.2))) (consM (.ok f) (consM (.ok g) (consM (.ok h) (.ok [])))) = .ok ([f, g, h].map fun x => Bd.side d x t 0) := by
              show lcB _ _ (.ok [f, g, h]) = _
              refine lcB_map _ (by simp) fun x hx => ?_
              show m_D_side (k, d.nodes) x t 0 = _
              refine side_ok D ?_ (Or.inl rfl)
              simp only [List.mem_cons, List.not_mem_nil, or_false] at hx
              rcases hx with rfl | rfl | rfl <;> assumption
            rw [e, Res.bind_ok]
            show Res.bind (mD_chosen m (k, d) (Bd.side d f t 0) (Bd.side d g t 0) (Bd.side d h t 0)) _ = _
            rw [em0]
            rfl
          have body1 : mD_chosen_b (mD_chosen m) f g h t 1 ([r0], (k, d1)) = .ok ([r0, r1], (k, d2)) := by
            unfold mD_chosen_b
            dsimp only
            rw [if_pos (Nat.lt_trans (show [r0].length < 1000000 by simp) lim_big)]
            have e : lcB (fun (x1 : Int) => .ok true) (fun (x1 : Int) => (Res.bind (.ok ((k, d1.nodes) : Int × List (Option Nt))) fun s => Res.bind (pairM (.ok x1) (pairM (.ok t) (.ok (1 : Int)))) fun a => m_D_side s (a.1) (a.2.1) (a.2.2))) (consM (.ok f) (consM (.ok g) (consM (.ok h) (.ok [])))) = .ok ([f, g, h].map fun x => Bd.side d1 x t 1) := by
              show lcB _ _ (.ok [f, g, h]) = _
              refine lcB_map _ (by simp) fun x hx => ?_
              show m_D_side (k, d1.nodes) x t 1 = _
              refine side_ok R0.ok ?_ (Or.inr rfl)
              simp only [List.mem_cons, List.not_mem_nil, or_false] at hx
              rcases hx with rfl | rfl | rfl <;> assumption
            rw [e, Res.bind_ok]
            show Res.bind (mD_chosen m (k, d1) (Bd.side d1 f t 1) (Bd.side d1 g t 1) (Bd.side d1 h t 1)) _ = _
            rw [em1]
            rfl
          have loop : (Res.bind (rng1M (.ok (2 : Int))) fun xs => Mw.forM (mD_chosen_b (mD_chosen m) f g h t) xs ([], (k, d))) = .ok ([r0, r1], (k, d2)) := by
            have er : rng1M (.ok (2 : Int)) = .ok [0, 1] := rng1_ok (n := 2) (by decide)
            rw [er, Res.bind_ok, Mw.forM, body0, Res.bind_ok, Mw.forM, body1, Res.bind_ok, Mw.forM]
          rw [loop, Res.bind_ok, er0, Option.bind_some, er1, Option.bind_some]
          dsimp only
          generalize Bd.found d2 t r0 r1 = w at F FE ⊢
          obtain ⟨r, d3⟩ := w
          dsimp only at F FE ⊢
          refine ⟨r, { d3 with chs := dput d3.chs (f, g, h) r }, ?_, rfl⟩
          show Res.bind (mD_found (k, d2) t r0 r1) _ = _
          rw [FE, Res.bind_ok]
          have q := F.chs
          show (if d3.chs.length < lim then _ else Res.stuck) = _
          rw [if_pos (by rw [q]; omega)]
          show Res.bind (optM (dget (dput d3.chs (f, g, h) r) (f, g, h))) _ = _
          have hget : dget (dput d3.chs (f, g, h) r) (f, g, h) = some r := by
            by_cases hz : dget d3.chs (f, g, h) = none
            · exact dget_dput hz
            · exact dget_dput_any r
          rw [hget]
          rfl
end
end Dgo

/-! the operations of a table of diagrams: states, values, the least case -/
namespace Dgo
open PySem L2 Mw Bd
structure St (c B : Nat) (s : Sd) : Prop where
  k : s.1 = (c : Int)
  ok : Ok (c : Int) s.2
  ch : Ch s.2
  nl : s.2.nodes.length ≤ B
  ml : s.2.nums.length ≤ B
  cl : s.2.chs.length ≤ B
structure Rs (c B : Nat) (s : Sd) (r : Int) (s' : Sd) (v : (Int → Bool) → Bool) : Prop where
  st : St c B s'
  ext : Ext s.2 s'.2
  va : Va s'.2 r
  sem : ∀ b, Bd.sem s'.2 r b = v b
section
variable {c B : Nat} {s : Sd}
theorem St.le {B' : Nat} (Z : St c B s) (h : B ≤ B') : St c B' s := ⟨Z.k, Z.ok, Z.ch, Nat.le_trans Z.nl h, Nat.le_trans Z.ml h, Nat.le_trans Z.cl h⟩
theorem Rs.le {B' : Nat} {r : Int} {s' : Sd} {v} (Z : Rs c B s r s' v) (h : B ≤ B') : Rs c B' s r s' v := ⟨Z.st.le h, Z.ext, Z.va, Z.sem⟩
theorem St.eq (Z : St c B s) : s = ((c : Int), s.2) := by rw [← Z.k]
theorem St.va0 (Z : St c B s) : Va s.2 0 := ⟨by omega, by have := Z.ok.len; omega⟩
theorem St.va1 (Z : St c B s) : Va s.2 1 := ⟨by omega, by have := Z.ok.len; omega⟩
theorem sem0 {d : Dg} {b : Int → Bool} : Bd.sem d 0 b = false := by rw [sem_lo (by omega)]; rfl
theorem sem1 {d : Dg} {b : Int → Bool} : Bd.sem d 1 b = true := by rw [sem_lo (by omega)]; rfl
theorem St.sem_ext {B' : Nat} {s' : Sd} (Z : St c B s) (Z' : St c B' s') (e : Ext s.2 s'.2) {f : Int} (h : Va s.2 f) (b : Int → Bool) : Bd.sem s'.2 f b = Bd.sem s.2 f b := Z.ok.ext Z'.ok e h
theorem St.chosen (Z : St c B s) (hc : c ≤ 10) (hB : B + 2 ^ (c + 1) ≤ lim) {f g h : Int} (hf : Va s.2 f) (hg : Va s.2 g) (hh : Va s.2 h) :
    ∃ r s', mD_chosen dpt s f g h = .ok (r, s') ∧ Rs c (B + 2 ^ (c + 1)) s r s' (fun b => ite3 (Bd.sem s.2 f b) (Bd.sem s.2 g b) (Bd.sem s.2 h b)) := by
  obtain ⟨k, d⟩ := s
  obtain rfl : k = (c : Int) := Z.k
  have D := Z.ok
  have vf := D.vr_ge hf
  have vg := D.vr_ge hg
  have vh := D.vr_ge hh
  dsimp only at vf vg vh
  have p2 : 0 < 2 ^ (c + 1) := Nat.pow_pos (by decide)
  have ht : top3 d f g h + 2 ≤ ((c + 1 : Nat) : Int) := by unfold top3; omega
  have h1 := Z.nl
  have h2 := Z.ml
  have h3 := Z.cl
  dsimp only at h1 h2 h3
  obtain ⟨r, d', e, R⟩ := Ok.chosen (c + 1) d f g h D Z.ch hf hg hh ht
  obtain ⟨r', d'', e1, e2⟩ := chosen_ok (k := (c : Int)) (c + 1) dpt d f g h (by unfold dpt; omega) D Z.ch hf hg hh ht (by omega) (by omega) (by omega)
  rw [e] at e2
  obtain ⟨rfl, rfl⟩ : r = r' ∧ d' = d'' := by simpa using e2
  have n1 := R.nl
  have n2 := R.ml
  have n3 := R.cl
  exact ⟨r, ((c : Int), d'), e1, ⟨rfl, R.ok, R.ch, by dsimp only; omega, by dsimp only; omega, by dsimp only; omega⟩, R.ext, R.va, R.sem⟩
theorem St.choose (Z : St c B s) (hc : c ≤ 10) (hB : B + 2 ^ (c + 1) ≤ lim) {f g h : Int} (hf : Va s.2 f) (hg : Va s.2 g) (hh : Va s.2 h) :
    ∃ r s', m_D_choose s f g h = .ok (r, s') ∧ Rs c (B + 2 ^ (c + 1)) s r s' (fun b => ite3 (Bd.sem s.2 f b) (Bd.sem s.2 g b) (Bd.sem s.2 h b)) := by
  obtain ⟨r, s', e, R⟩ := Z.chosen hc hB hf hg hh
  refine ⟨r, s', ?_, R⟩
  unfold m_D_choose mD_choose
  rw [check_ok (by
    intro x hx
    simp only [List.mem_cons, List.not_mem_nil, or_false] at hx
    rcases hx with rfl | rfl | rfl <;> assumption), Res.bind_ok]
  exact e
theorem choose_no {f g h : Int} (hg : (Va s.2 f ∧ ¬ Va s.2 g)) : m_D_choose s f g h = .exc 0 [] := by
  unfold m_D_choose mD_choose
  have : m_D_check (s.1, s.2.nodes) [f, g, h] = .exc 0 [] := by
    unfold m_D_check
    rw [Res.bind_ok, Mw.forM]
    have e := check_ok (k := s.1) (d := s.2) (ns := [f]) (by intro x hx; rw [List.mem_singleton.mp hx]; exact hg.1)
    unfold m_D_check at e
    rw [Res.bind_ok, Mw.forM] at e
    cases hx : m_D_check_b3 (s.1, s.2.nodes) f () with
    | ok u =>
      rw [Res.bind_ok]
      have n := check_no (k := s.1) (d := s.2) hg.2 [h]
      unfold m_D_check at n
      rw [Res.bind_ok] at n
      exact n
    | exc a b => rw [hx] at e; cases e
    | stuck => rw [hx] at e; cases e
  rw [this]; rfl
theorem St.negate (Z : St c B s) (hc : c ≤ 10) (hB : B + 2 ^ (c + 1) ≤ lim) {f : Int} (hf : Va s.2 f) : ∃ r s', m_D_negate s f = .ok (r, s') ∧ Rs c (B + 2 ^ (c + 1)) s r s' (fun b => !Bd.sem s.2 f b) := by
  obtain ⟨r, s', e, R⟩ := Z.choose hc hB hf Z.va0 Z.va1
  exact ⟨r, s', e, R.st, R.ext, R.va, fun b => by rw [R.sem b, sem0, sem1]; cases Bd.sem s.2 f b <;> rfl⟩
theorem St.both (Z : St c B s) (hc : c ≤ 10) (hB : B + 2 ^ (c + 1) ≤ lim) {f g : Int} (hf : Va s.2 f) (hg : Va s.2 g) : ∃ r s', m_D_both s f g = .ok (r, s') ∧ Rs c (B + 2 ^ (c + 1)) s r s' (fun b => Bd.sem s.2 f b && Bd.sem s.2 g b) := by
  obtain ⟨r, s', e, R⟩ := Z.choose hc hB hf hg Z.va0
  exact ⟨r, s', e, R.st, R.ext, R.va, fun b => by rw [R.sem b, sem0]; cases Bd.sem s.2 f b <;> rfl⟩
theorem St.either (Z : St c B s) (hc : c ≤ 10) (hB : B + 2 ^ (c + 1) ≤ lim) {f g : Int} (hf : Va s.2 f) (hg : Va s.2 g) : ∃ r s', m_D_either s f g = .ok (r, s') ∧ Rs c (B + 2 ^ (c + 1)) s r s' (fun b => Bd.sem s.2 f b || Bd.sem s.2 g b) := by
  obtain ⟨r, s', e, R⟩ := Z.choose hc hB hf Z.va1 hg
  exact ⟨r, s', e, R.st, R.ext, R.va, fun b => by rw [R.sem b, sem1]; cases Bd.sem s.2 f b <;> rfl⟩
theorem St.variable (Z : St c B s) (hB : B + 1 ≤ lim) {i : Int} (h0 : 0 ≤ i) (h1 : i < c) : ∃ r s', m_D_variable s i = .ok (r, s') ∧ Rs c (B + 1) s r s' (fun b => b i) := by
  obtain ⟨k, d⟩ := s
  obtain rfl : k = (c : Int) := Z.k
  have v0 : Bd.vr d 0 < i := by rw [vr_lo (by omega)]; omega
  have v1 : Bd.vr d 1 < i := by rw [vr_lo (by omega)]; omega
  have F := Z.ok.found ⟨h0, h1⟩ Z.va0 Z.va1 v0 v1
  have a1 := Z.nl
  have a2 := Z.ml
  have a3 := Z.cl
  dsimp only at a1 a2 a3
  have E := found_ok (k := (c : Int)) (v := i) (lo := 0) (hi := 1) (d := d) (by omega) (by omega) Z.ok
  have b1 := F.nl
  have b2 := F.ml
  dsimp only at b1 b2
  refine ⟨_, ((c : Int), (Bd.found d i 0 1).2), ?_, ⟨rfl, F.ok, Ch.ext Z.ok F.ok Z.ch F.ext F.chs, by dsimp only; omega, by dsimp only; omega, by dsimp only; rw [F.chs]; dsimp only; omega⟩, F.ext, F.va, fun b => ?_⟩
  · unfold m_D_variable mD_variable
    have e : notM (chainM (fun i j => decide (i ≤ j)) (fun i j => decide (i < j)) (.ok (0 : Int)) (.ok i) (.ok (((c : Int), d) : Sd).1)) = .ok false := by
      show notM (if decide ((0 : Int) ≤ i) = true then Res.ok (decide (i < (c : Int))) else .ok false) = .ok false
      rw [if_pos (decide_eq_true h0), decide_eq_true h1]; rfl
    rw [e]
    exact E
  · show Bd.sem (Bd.found d i 0 1).2 (Bd.found d i 0 1).1 b = b i
    rw [F.sem b, sem1, sem0]
    cases b i <;> rfl
theorem st_new (c : Nat) : St c 2 ((c : Int), d0) := ⟨rfl, ⟨by show 2 ≤ 2; omega, fun i h1 h2 => by
    have : i < 2 := h2
    omega, fun k n => ⟨(fun h => by cases h), fun h => by have h2 : n < 2 := h.2.1; have h1 := h.1; omega⟩⟩, ⟨fun f g h r q => by cases q⟩, Nat.le_refl _, Nat.zero_le _, Nat.zero_le _⟩
/-- equal values have equal numbers -/
theorem St.canon (Z : St c B s) {f g : Int} (hf : Va s.2 f) (hg : Va s.2 g) (h : ∀ b, Bd.sem s.2 f b = Bd.sem s.2 g b) : f = g := Z.ok.canon _ f g (Nat.le_refl _) hf hg h

/-! ### the value of a node -/
def bitF (bits : List Int) : Int → Bool := fun i => decide (gx bits i = 1)
theorem bits_ok {bits : List Int} (h : ∀ x ∈ bits, x = 0 ∨ x = 1) : m_check_bits bits (bits.length : Int) = .ok () := by
  unfold m_check_bits
  have e : neM (lenM (.ok bits)) (.ok (bits.length : Int)) = .ok false := by
    show Res.ok (!decide ((bits.length : Int) = (bits.length : Int))) = _
    rw [decide_eq_true rfl]; rfl
  rw [e, bif_eq, if_neg (by simp), Res.bind_ok]
  have : Mw.forM m_check_bits_b4 bits () = .ok () := by
    clear e
    induction bits with
    | nil => rfl
    | cons x xs ih =>
      rw [Mw.forM]
      have : m_check_bits_b4 x () = .ok () := by
        rcases h x (by simp) with rfl | rfl <;> rfl
      rw [this, Res.bind_ok]
      exact ih fun y hy => h y (by simp [hy])
  rw [this]; rfl
theorem value_loop (D : Ok (c : Int) s.2) {bits : List Int} (hl : bits.length = c) : ∀ (n : Nat) (f : Int), Va s.2 f → f.toNat < n → whB (fun (p_f : Int) => (gtM (.ok p_f) (.ok (1 : Int)))) (m_D_value_b6 (roD s) bits) n f = .ok (.nx (if Bd.sem s.2 f (bitF bits) = true then 1 else 0))
  | 0, f, _, h => by omega
  | n + 1, f, hv, hn => by
    unfold whB
    have e : gtM (.ok f) (.ok (1 : Int)) = .ok (decide (1 < f)) := rfl
    rw [e, Res.bind_ok]
    by_cases h1 : 1 < f
    · rw [if_pos (decide_eq_true h1)]
      obtain ⟨v, lo, hi, eg, ev, er⟩ := node_at D (show 2 ≤ f by omega) hv.2
      obtain ⟨v', lo', hi', eg', ⟨hv0, hv1⟩, _, ha, hb, _⟩ := D.node f (by omega) hv.2
      rw [eg] at eg'
      obtain ⟨rfl, rfl, rfl⟩ : v = v' ∧ lo = lo' ∧ hi = hi' := by simpa using eg'
      have hvl := hv.2
      have body : m_D_value_b6 (roD s) bits f = .ok (.nx (if bitF bits v = true then hi else lo)) := by
        unfold m_D_value_b6
        show Res.bind (Res.bind (idxM (.ok s.2.nodes) (.ok f)) getM) _ = _
        rw [er, Res.bind_ok]
        dsimp only
        rw [idxM_gx hv0 (by omega)]
        show Res.bind (Res.ite (.ok (decide (gx bits v = 1))) _ _) _ = _
        rw [bif_eq]
        unfold bitF
        by_cases q : gx bits v = 1
        · rw [if_pos (decide_eq_true q), if_pos (decide_eq_true q)]; rfl
        · rw [if_neg (by simp [q]), if_neg (by simp [q])]; rfl
      rw [body, Res.bind_ok]
      dsimp only
      rw [D.sem_node (by omega) hv.2 eg]
      by_cases q : bitF bits v = true
      · rw [if_pos q, if_pos q]
        exact value_loop D hl n hi ⟨hb.1, by omega⟩ (by omega)
      · rw [if_neg q, if_neg q]
        exact value_loop D hl n lo ⟨ha.1, by omega⟩ (by omega)
    · rw [if_neg (by simp [h1]), sem_lo (by omega)]
      have := hv.1
      by_cases q : f = 1
      · rw [q]; rfl
      · have : f = 0 := by omega
        rw [this]; rfl
theorem St.value (Z : St c B s) {f : Int} (hf : Va s.2 f) {bits : List Int} (hl : bits.length = c) (hb : ∀ x ∈ bits, x = 0 ∨ x = 1) : m_D_value (roD s) f bits = .ok (if Bd.sem s.2 f (bitF bits) = true then 1 else 0) := by
  unfold m_D_value
  have e1 : m_D_check (roD s) [f] = .ok () := check_ok (d := s.2) (k := s.1) (by intro x hx; rw [List.mem_singleton.mp hx]; exact hf)
  have e2 : m_check_bits bits (roD s).1 = .ok () := by
    show m_check_bits bits s.1 = _
    rw [Z.k, ← hl]; exact bits_ok hb
  show Res.bind (m_D_check (roD s) [f]) _ = _
  rw [e1, Res.bind_ok]
  show Res.bind (m_check_bits bits (roD s).1) _ = _
  rw [e2, Res.bind_ok]
  have hv := hf
  have h0 := hf.1
  have h1 := hf.2
  rw [value_loop Z.ok hl _ f hf (by show f.toNat < s.2.nodes.length + 1; omega)]
  rfl
/-! ### the least case -/
theorem _root_.Bd.Ok.sem_congr_le {c : Int} {d : Dg} (D : Ok c d) {g : Int} {b b' : Int → Bool} (hv : Va d g) (h : ∀ i, 0 ≤ i → i ≤ Bd.vr d g → b i = b' i) : Bd.sem d g b = Bd.sem d g b' := by
  have key : ∀ (n : Nat) (f : Int), f.toNat ≤ n → Va d f → Bd.vr d f ≤ Bd.vr d g → Bd.sem d f b = Bd.sem d f b' := by
    intro n
    induction n with
    | zero =>
      intro f hn hv _
      rw [sem_lo (by omega), sem_lo (by omega)]
    | succ n ih =>
      intro f hn hv hvr
      by_cases h1 : f ≤ 1
      · rw [sem_lo h1, sem_lo h1]
      · obtain ⟨v, lo, hi, e, ⟨hv0, _⟩, _, ha, hb, hc, hd⟩ := D.node f (by omega) hv.2
        have ev := D.vr_node (by omega) e
        have hl := hv.2
        rw [D.sem_node (by omega) hv.2 e, D.sem_node (by omega) hv.2 e, h v hv0 (by omega), ih lo (by omega) ⟨ha.1, by omega⟩ (by omega), ih hi (by omega) ⟨hb.1, by omega⟩ (by omega)]
  exact key _ g (Nat.le_refl _) hv (Int.le_refl _)
/-- the bits of a case -/
def cb (n : Nat) : Int → Bool := fun i => n.testBit i.toNat
/-- what first_case adds up -/
def fcn (d : Dg) : Nat → Int → Nat
  | 0, _ => 0
  | n + 1, f => if f ≤ 1 then 0 else if ((gx d.nodes f).getD (0, 0, 0)).2.1 = 0 then 2 ^ (((gx d.nodes f).getD (0, 0, 0)).1).toNat + fcn d n ((gx d.nodes f).getD (0, 0, 0)).2.2 else fcn d n ((gx d.nodes f).getD (0, 0, 0)).2.1
theorem fcn_spec {d : Dg} (D : Ok (c : Int) d) : ∀ (n : Nat) (f : Int), Va d f → f.toNat ≤ n → f ≠ 0 → fcn d n f < 2 ^ ((Bd.vr d f) + 1).toNat ∧ Bd.sem d f (cb (fcn d n f)) = true ∧ ∀ m : Nat, Bd.sem d f (cb m) = true → fcn d n f ≤ m
  | n, f, hv, hn, h0 => by
    by_cases h1 : f ≤ 1
    · have e : f = 1 := by have := hv.1; omega
      have en : fcn d n f = 0 := by
        cases n with
        | zero => rfl
        | succ n => unfold fcn; rw [if_pos h1]
      rw [en, e]
      exact ⟨Nat.pow_pos (by decide), sem1, fun m _ => Nat.zero_le m⟩
    · cases n with
      | zero => omega
      | succ n =>
        obtain ⟨v, lo, hi, e, ⟨hv0, hv1⟩, hne, ha, hb, hc, hd⟩ := D.node f (by omega) hv.2
        have hl := hv.2
        have ev := D.vr_node (by omega) e
        have vlo : Va d lo := ⟨ha.1, by omega⟩
        have vhi : Va d hi := ⟨hb.1, by omega⟩
        have en : fcn d (n + 1) f = if lo = 0 then 2 ^ v.toNat + fcn d n hi else fcn d n lo := by
          conv => lhs; unfold fcn
          rw [if_neg h1, e]; rfl
        have agree : ∀ (x y : Nat) (g : Int), Va d g → Bd.vr d g < v → (∀ i, i < v.toNat → x.testBit i = y.testBit i) → Bd.sem d g (cb x) = Bd.sem d g (cb y) := fun x y g vg hg hi => D.sem_congr_le vg (fun i hi0 hiv => hi _ (by omega)) 
        rw [en, ev]
        by_cases hz : lo = 0
        · rw [if_pos hz]
          have hhi : hi ≠ 0 := fun q => hne (hz.trans q.symm)
          obtain ⟨i1, i2, i3⟩ := fcn_spec D n hi vhi (by omega) hhi
          have lt : fcn d n hi < 2 ^ v.toNat := Nat.lt_of_lt_of_le i1 (Nat.pow_le_pow_right (by decide) (by omega))
          have tb : (2 ^ v.toNat + fcn d n hi).testBit v.toNat = true := by
            rw [Nat.testBit_two_pow_add_eq, Nat.testBit_lt_two_pow lt]; rfl
          have low : ∀ i, i < v.toNat → (2 ^ v.toNat + fcn d n hi).testBit i = (fcn d n hi).testBit i := fun i hi => Nat.testBit_two_pow_add_gt hi _
          refine ⟨?_, ?_, fun m hm => ?_⟩
          · rw [show (v + 1).toNat = v.toNat + 1 by omega, Nat.pow_succ]; omega
          · rw [D.sem_node (by omega) hv.2 e]
            have : cb (2 ^ v.toNat + fcn d n hi) v = true := tb
            rw [this, if_pos rfl, agree _ _ hi vhi hd low]
            exact i2
          · rw [D.sem_node (by omega) hv.2 e] at hm
            by_cases hb' : cb m v = true
            · rw [if_pos hb'] at hm
              have hm2 : Bd.sem d hi (cb (m % 2 ^ v.toNat)) = true := by
                rw [agree (m % 2 ^ v.toNat) m hi vhi hd fun i hi => by rw [Nat.testBit_mod_two_pow, decide_eq_true hi]; rfl]
                exact hm
              have := i3 _ hm2
              have hb2 : m.testBit v.toNat = true := hb'
              have := Nat.ge_two_pow_of_testBit hb2
              have key : 2 ^ v.toNat + m % 2 ^ v.toNat ≤ m := by
                have e1 := Nat.div_add_mod m (2 ^ v.toNat)
                have e2 : 1 ≤ m / 2 ^ v.toNat := (Nat.one_le_div_iff (Nat.pow_pos (by decide))).mpr this
                have e3 : 2 ^ v.toNat * 1 ≤ 2 ^ v.toNat * (m / 2 ^ v.toNat) := Nat.mul_le_mul_left _ e2
                omega
              omega
            · rw [if_neg hb', hz, sem0] at hm
              cases hm
        · rw [if_neg hz]
          obtain ⟨i1, i2, i3⟩ := fcn_spec D n lo vlo (by omega) hz
          have lt : fcn d n lo < 2 ^ v.toNat := Nat.lt_of_lt_of_le i1 (Nat.pow_le_pow_right (by decide) (by omega))
          refine ⟨?_, ?_, fun m hm => ?_⟩
          · rw [show (v + 1).toNat = v.toNat + 1 by omega, Nat.pow_succ]; omega
          · rw [D.sem_node (by omega) hv.2 e]
            have : cb (fcn d n lo) v = false := Nat.testBit_lt_two_pow lt
            rw [this, if_neg (by simp)]
            exact i2
          · by_cases hm2 : m < 2 ^ v.toNat
            · rw [D.sem_node (by omega) hv.2 e] at hm
              have : cb m v = false := Nat.testBit_lt_two_pow hm2
              rw [this, if_neg (by simp)] at hm
              exact i3 m hm
            · omega
end
end Dgo

/-! products and covers: mirrors and what they mean -/
namespace Dgo
open PySem L2 Mw Bd
def m_takes_in (p_product : (List Int)) (p_bits : (List Int)) : Res Bool :=
  (allM (lcB (fun (x1 : (Int × Int)) => .ok true) (fun (x1 : (Int × Int)) => (orM (eqM (.ok x1.1) (.ok (2 : Int))) (eqM (.ok x1.1) (.ok x1.2)))) (zipM (.ok p_product) (.ok p_bits))))
def m_cover_value (p_cover : (List (List Int))) (p_bits : (List Int)) : Res Int :=
  (b2iM (anyM (lcB (fun (x1 : (List Int)) => .ok true) (fun (x1 : (List Int)) => (Res.bind (pairM (.ok x1) (.ok p_bits)) fun a => m_takes_in (a.1) (a.2))) (.ok p_cover))))
def m_product_function_b6  (x_ : (Int × Int)) (s_ : Int × Sd) : Res (Int × Sd) :=
  match x_ with
 | (p_variable, p_mark) =>
  match s_ with
 | (p_node, p_diagrams) =>
  (Res.ite (neM (.ok p_mark) (.ok (2 : Int)))
  (Res.bind ((callS (pureS fun _ => (.ok p_variable)) fun s a => m_D_variable s a) p_diagrams) fun (p : Int × Sd) => match p with
 | (p_literal, p_diagrams) =>
  (Res.bind ((callS (pairS (pureS fun _ => (.ok p_node)) (iteS (pureS fun _ => (eqM (.ok p_mark) (.ok (1 : Int)))) (pureS fun _ => (.ok p_literal)) (callS (pureS fun _ => (.ok p_literal)) fun s a => m_D_negate s a))) fun s a => m_D_both s (a.1) (a.2)) p_diagrams) fun (p : Int × Sd) => match p with
 | (p_node, p_diagrams) =>
  (.ok (p_node, p_diagrams))))
  (.ok (p_node, p_diagrams)))
def m_product_function (p_diagrams : Sd) (p_product : (List Int)) : Res (Int × Sd) :=
  (Res.bind (.ok (1 : Int)) fun (p_node : Int) =>
  (Res.bind (Res.bind (enumM (.ok p_product)) fun xs => forM m_product_function_b6 xs (p_node, p_diagrams)) (fun (s_ : Int × Sd) => match s_ with
 | (p_node, p_diagrams) =>
  ((pureS fun _ => (.ok p_node)) p_diagrams))))
def m_cover_function_b4  (p_product : (List Int)) (s_ : Int × Sd) : Res (Int × Sd) :=
  match s_ with
 | (p_node, p_diagrams) =>
  (Res.bind ((callS (pairS (pureS fun _ => (.ok p_node)) (callS (pureS fun _ => (.ok p_product)) fun s a => m_product_function s a)) fun s a => m_D_either s (a.1) (a.2)) p_diagrams) fun (p : Int × Sd) => match p with
 | (p_node, p_diagrams) =>
  (.ok (p_node, p_diagrams)))
def m_cover_function (p_diagrams : Sd) (p_cover : (List (List Int))) : Res (Int × Sd) :=
  (Res.bind (.ok (0 : Int)) fun (p_node : Int) =>
  (Res.bind (Res.bind (.ok p_cover) fun xs => forM m_cover_function_b4 xs (p_node, p_diagrams)) (fun (s_ : Int × Sd) => match s_ with
 | (p_node, p_diagrams) =>
  ((pureS fun _ => (.ok p_node)) p_diagrams))))

section
variable {c B : Nat} {s : Sd}
theorem fc_loop (D : Ok (c : Int) s.2) (hc : c ≤ 1000) : ∀ (n : Nat) (f : Int) (case : Int), Va s.2 f → f.toNat < n → ∃ g, whB (fun (s_ : Int × Int) => match s_ with
 | (p_case, p_f) => (gtM (.ok p_f) (.ok (1 : Int)))) (m_D_first_case_b10 (roD s)) n (case, f) = .ok (.nx (case + (fcn s.2 n f : Int), g))
  | 0, f, _, _, h => by omega
  | n + 1, f, case, hv, hn => by
    unfold whB
    dsimp only
    rw [gtM_ok, Res.bind_ok]
    by_cases h1 : 1 < f
    · rw [if_pos (decide_eq_true h1)]
      obtain ⟨v, lo, hi, eg, ev, er⟩ := node_at D (show 2 ≤ f by omega) hv.2
      obtain ⟨v', lo', hi', eg', ⟨hv0, hv1⟩, _, ha, hb, _⟩ := D.node f (by omega) hv.2
      rw [eg] at eg'
      obtain ⟨rfl, rfl, rfl⟩ : v = v' ∧ lo = lo' ∧ hi = hi' := by simpa using eg'
      have hvl := hv.2
      have en : fcn s.2 (n + 1) f = if lo = 0 then 2 ^ v.toNat + fcn s.2 n hi else fcn s.2 n lo := by
        conv => lhs; unfold fcn
        rw [if_neg (by omega), eg]; rfl
      obtain ⟨k, rfl⟩ := Int.eq_ofNat_of_zero_le hv0
      have body : m_D_first_case_b10 (roD s) (case, f) = .ok (.nx (if lo = 0 then (case + ((2 ^ k : Nat) : Int), hi) else (case, lo))) := by
        unfold m_D_first_case_b10
        dsimp only
        show Res.bind (Res.bind (idxM (.ok s.2.nodes) (.ok f)) getM) _ = _
        rw [er, Res.bind_ok]
        dsimp only
        rw [eqM_ok, bif_eq]
        by_cases q : lo = 0
        · rw [if_pos (decide_eq_true q), if_pos q, shl1_ok (by omega)]; rfl
        · rw [if_neg (by simp [q]), if_neg q]; rfl
      rw [body, Res.bind_ok]
      dsimp only
      rw [en]
      by_cases q : lo = 0
      · rw [if_pos q, if_pos q]
        obtain ⟨g, e⟩ := fc_loop D hc n hi (case + ((2 ^ k : Nat) : Int)) ⟨hb.1, by omega⟩ (by omega)
        refine ⟨g, ?_⟩
        rw [e]
        simp only [Int.toNat_natCast]
        congr 3
        omega
      · rw [if_neg q, if_neg q]
        exact fc_loop D hc n lo case ⟨ha.1, by omega⟩ (by omega)
    · rw [if_neg (by simp [h1])]
      refine ⟨f, ?_⟩
      have : fcn s.2 (n + 1) f = 0 := by unfold fcn; rw [if_pos (by omega)]
      rw [this]
      simp
/-- the least case of a node -/
theorem St.first (Z : St c B s) (hc : c ≤ 1000) {f : Int} (hf : Va s.2 f) : ∃ o : Option Int, m_D_first_case (roD s) f = .ok o ∧ ((f = 0 ∧ o = none) ∨ f ≠ 0 ∧ ∃ n : Nat, o = some (n : Int) ∧ n < 2 ^ c ∧ Bd.sem s.2 f (cb n) = true ∧ ∀ m : Nat, Bd.sem s.2 f (cb m) = true → n ≤ m) := by
  unfold m_D_first_case
  have e1 : m_D_check (roD s) [f] = .ok () := check_ok (d := s.2) (k := s.1) (by intro x hx; rw [List.mem_singleton.mp hx]; exact hf)
  have e0 : (Res.bind (.ok (roD s)) fun s => Res.bind (consM (.ok f) (.ok [])) fun a => m_D_check s a) = .ok () := e1
  rw [e0, Res.bind_ok, eqM_ok, bif_eq]
  by_cases h0 : f = 0
  · rw [if_pos (decide_eq_true h0)]
    exact ⟨none, rfl, .inl ⟨h0, rfl⟩⟩
  · rw [if_neg (by simp [h0]), Res.bind_ok]
    have a0 := hf.1
    have a1 := hf.2
    obtain ⟨g, e⟩ := fc_loop Z.ok hc ((roD s).2.length + 1) f 0 hf (by show f.toNat < s.2.nodes.length + 1; omega)
    rw [e, Res.bind_ok]
    obtain ⟨h1, h2, h3⟩ := fcn_spec Z.ok ((roD s).2.length + 1) f hf (by show f.toNat ≤ s.2.nodes.length + 1; omega) h0
    refine ⟨some ((fcn s.2 ((roD s).2.length + 1) f : Nat) : Int), ?_, .inr ⟨h0, _, rfl, ?_, h2, h3⟩⟩
    · show Res.ok (some ((0 : Int) + (fcn s.2 ((roD s).2.length + 1) f : Int))) = _
      rw [Int.zero_add]
    · have := (Z.ok.vr_ge hf).2.1
      exact Nat.lt_of_lt_of_le h1 (Nat.pow_le_pow_right (by decide) (by omega))
/-! ### products -/
def Marks (xs : List Int) : Prop := ∀ x ∈ xs, x = 0 ∨ x = 1 ∨ x = 2
/-- a product, from the variable i on, takes in bits -/
def tkF : Int → List Int → (Int → Bool) → Bool
  | _, [], _ => true
  | i, x :: xs, b => (decide (x = 2) || decide (x = 1) == b i) && tkF (i + 1) xs b
def tk (xs : List Int) (b : Int → Bool) : Bool := tkF 0 xs b
theorem enumL_from (xs : List Int) : ∀ i : Nat, (xs.mapIdx fun k x => (((k + i : Nat) : Int), x)) = match xs with | [] => [] | x :: r => ((i : Int), x) :: r.mapIdx fun k x => (((k + (i + 1) : Nat) : Int), x) := by
  intro i
  cases xs with
  | nil => rfl
  | cons x r =>
    rw [List.mapIdx_cons]
    dsimp only
    congr 1
    · simp
    · apply List.ext_getElem?
      intro k
      simp only [List.getElem?_mapIdx]
      congr 1
      funext y
      simp
      omega
theorem product_loop (hc : c ≤ 10) : ∀ (xs : List Int) (i : Nat) (B : Nat) (s : Sd) (node : Int), St c B s → Va s.2 node → Marks xs → i + xs.length ≤ c → B + xs.length * (2 ^ (c + 2) + 1) ≤ lim →
    ∃ r s', Mw.forM m_product_function_b6 (xs.mapIdx fun k x => (((k + i : Nat) : Int), x)) (node, s) = .ok (r, s') ∧ Rs c (B + xs.length * (2 ^ (c + 2) + 1)) s r s' (fun b => Bd.sem s.2 node b && tkF (i : Int) xs b)
  | [], i, B, s, node, Z, hv, hm, hl, hB => ⟨node, s, rfl, Z.le (by simp), Ext.refl _, hv, fun b => by simp [tkF]⟩
  | x :: xs, i, B, s, node, Z, hv, hm, hl, hB => by
    rw [enumL_from]
    dsimp only
    rw [Mw.forM]
    have e4 : 2 ^ (c + 2) = 2 * 2 ^ (c + 1) := by rw [Nat.pow_succ 2 (c + 1)]; omega
    have p2 : 0 < 2 ^ (c + 1) := Nat.pow_pos (by decide)
    have eB : (x :: xs).length * (2 ^ (c + 2) + 1) = 2 ^ (c + 2) + 1 + xs.length * (2 ^ (c + 2) + 1) := by rw [List.length_cons, Nat.succ_mul]; omega
    rw [eB] at hB ⊢
    have hlen : i + (xs.length + 1) ≤ c := hl
    have step : ∃ r s1, m_product_function_b6 ((i : Int), x) (node, s) = .ok (r, s1) ∧ Rs c (B + (2 ^ (c + 2) + 1)) s r s1 (fun b => Bd.sem s.2 node b && (decide (x = 2) || decide (x = 1) == b i)) := by
      unfold m_product_function_b6
      dsimp only
      rw [neM_ok, bif_eq]
      by_cases h2 : x = 2
      · rw [decide_eq_true h2, if_neg (by simp)]
        exact ⟨node, s, rfl, Z.le (by omega), Ext.refl _, hv, fun b => by simp [h2]⟩
      · rw [decide_eq_false h2, if_pos (by rfl)]
        obtain ⟨l, s1, e1, R1⟩ := Z.variable (by omega) (i := (i : Int)) (by omega) (by omega)
        show ∃ r s1', Res.bind (m_D_variable s (i : Int)) _ = .ok (r, s1') ∧ _
        rw [e1, Res.bind_ok]
        dsimp only
        have hx : x = 0 ∨ x = 1 := by
          rcases hm x (by simp) with h | h | h
          · exact .inl h
          · exact .inr h
          · exact absurd h h2
        have lit : ∃ l' s2, (iteS (pureS fun _ => (eqM (.ok x) (.ok (1 : Int)))) (pureS fun _ => (.ok l)) (callS (pureS fun _ => (.ok l)) fun s a => m_D_negate s a)) s1 = .ok (l', s2) ∧ Rs c (B + 1 + 2 ^ (c + 1)) s1 l' s2 (fun b => decide (x = 1) == b i) := by
          rcases hx with rfl | rfl
          · obtain ⟨l', s2, e2, R2⟩ := R1.st.negate hc (by omega) R1.va
            refine ⟨l', s2, e2, R2.st, R2.ext, R2.va, fun b => ?_⟩
            rw [R2.sem b, R1.sem b]
            cases b i <;> rfl
          · refine ⟨l, s1, rfl, R1.st.le (by omega), Ext.refl _, R1.va, fun b => ?_⟩
            rw [R1.sem b]
            cases b i <;> rfl
        obtain ⟨l', s2, e2, R2⟩ := lit
        have hn2 := R2.ext.va (R1.ext.va hv)
        obtain ⟨r, s3, e3, R3⟩ := R2.st.both hc (by omega) hn2 R2.va
        refine ⟨r, s3, ?_, R3.st.le (by omega), (R1.ext.trans R2.ext).trans R3.ext, R3.va, fun b => ?_⟩
        · show Res.bind (Res.bind (Res.bind ((iteS (pureS fun _ => (eqM (.ok x) (.ok (1 : Int)))) (pureS fun _ => (.ok l)) (callS (pureS fun _ => (.ok l)) fun s a => m_D_negate s a)) s1) fun y => .ok ((node, y.1), y.2)) fun y => m_D_both y.2 y.1.1 y.1.2) _ = _
          rw [e2, Res.bind_ok, Res.bind_ok]
          dsimp only
          rw [e3]; rfl
        · rw [R3.sem b, R2.sem b, R1.st.sem_ext R2.st R2.ext (R1.ext.va hv), Z.sem_ext R1.st R1.ext hv, Bool.false_or]
    obtain ⟨r, s1, e1, R1⟩ := step
    rw [e1, Res.bind_ok]
    obtain ⟨r', s2, e2, R2⟩ := product_loop hc xs (i + 1) _ s1 r R1.st R1.va (fun y hy => hm y (by simp [hy])) (by omega) (by omega)
    refine ⟨r', s2, e2, R2.st.le (by omega), R1.ext.trans R2.ext, R2.va, fun b => ?_⟩
    rw [R2.sem b, R1.sem b, tkF, Bool.and_assoc]
    congr 2
theorem St.product (Z : St c B s) (hc : c ≤ 10) {xs : List Int} (hm : Marks xs) (hl : xs.length ≤ c) (hB : B + xs.length * (2 ^ (c + 2) + 1) ≤ lim) : ∃ r s', m_product_function s xs = .ok (r, s') ∧ Rs c (B + xs.length * (2 ^ (c + 2) + 1)) s r s' (tk xs) := by
  obtain ⟨r, s', e, R⟩ := product_loop hc xs 0 B s 1 Z Z.va1 hm (by omega) hB
  refine ⟨r, s', ?_, R.st, R.ext, R.va, fun b => ?_⟩
  · unfold m_product_function
    show Res.bind (Mw.forM m_product_function_b6 (enumL xs) (1, s)) _ = _
    have : enumL xs = xs.mapIdx fun k x => (((k + 0 : Nat) : Int), x) := rfl
    rw [this, e, Res.bind_ok]
    rfl
  · rw [R.sem b, sem1, Bool.true_and]; rfl
theorem cover_loop (hc : c ≤ 10) : ∀ (ps : List (List Int)) (B : Nat) (s : Sd) (node : Int), St c B s → Va s.2 node → (∀ p ∈ ps, Marks p ∧ p.length ≤ c) → B + ps.length * ((c + 1) * (2 ^ (c + 2) + 1)) ≤ lim →
    ∃ r s', Mw.forM m_cover_function_b4 ps (node, s) = .ok (r, s') ∧ Rs c (B + ps.length * ((c + 1) * (2 ^ (c + 2) + 1))) s r s' (fun b => Bd.sem s.2 node b || ps.any fun p => tk p b)
  | [], B, s, node, Z, hv, hp, hB => ⟨node, s, rfl, Z.le (by simp), Ext.refl _, hv, fun b => by simp⟩
  | p :: ps, B, s, node, Z, hv, hp, hB => by
    rw [Mw.forM]
    have e4 : 2 ^ (c + 2) = 2 * 2 ^ (c + 1) := by rw [Nat.pow_succ 2 (c + 1)]; omega
    have eB : (p :: ps).length * ((c + 1) * (2 ^ (c + 2) + 1)) = (c + 1) * (2 ^ (c + 2) + 1) + ps.length * ((c + 1) * (2 ^ (c + 2) + 1)) := by rw [List.length_cons, Nat.succ_mul]; omega
    rw [eB] at hB ⊢
    obtain ⟨hm, hl⟩ := hp p (by simp)
    have eP : p.length * (2 ^ (c + 2) + 1) ≤ c * (2 ^ (c + 2) + 1) := Nat.mul_le_mul_right _ hl
    have eC : (c + 1) * (2 ^ (c + 2) + 1) = c * (2 ^ (c + 2) + 1) + (2 ^ (c + 2) + 1) := Nat.succ_mul _ _
    obtain ⟨r1, s1, e1, R1⟩ := Z.product hc hm hl (by omega)
    obtain ⟨r2, s2, e2, R2⟩ := R1.st.either hc (by omega) (R1.ext.va hv) R1.va
    have step : m_cover_function_b4 p (node, s) = .ok (r2, s2) := by
      unfold m_cover_function_b4
      dsimp only
      show Res.bind (Res.bind (Res.bind (m_product_function s p) fun y => .ok ((node, y.1), y.2)) fun y => m_D_either y.2 y.1.1 y.1.2) _ = _
      rw [e1, Res.bind_ok, Res.bind_ok]
      dsimp only
      rw [e2]; rfl
    rw [step, Res.bind_ok]
    obtain ⟨r', s3, e3, R3⟩ := cover_loop hc ps (B + (c + 1) * (2 ^ (c + 2) + 1)) s2 r2 (R2.st.le (by omega)) R2.va (fun q hq => hp q (by simp [hq])) (by omega)
    refine ⟨r', s3, e3, R3.st.le (by omega), (R1.ext.trans R2.ext).trans R3.ext, R3.va, fun b => ?_⟩
    rw [R3.sem b, R2.sem b, R1.sem b, Z.sem_ext R1.st R1.ext hv, List.any_cons, Bool.or_assoc]
theorem St.cover (Z : St c B s) (hc : c ≤ 10) {ps : List (List Int)} (hp : ∀ p ∈ ps, Marks p ∧ p.length ≤ c) (hB : B + ps.length * ((c + 1) * (2 ^ (c + 2) + 1)) ≤ lim) : ∃ r s', m_cover_function s ps = .ok (r, s') ∧ Rs c (B + ps.length * ((c + 1) * (2 ^ (c + 2) + 1))) s r s' (fun b => ps.any fun p => tk p b) := by
  obtain ⟨r, s', e, R⟩ := cover_loop hc ps B s 0 Z Z.va0 hp hB
  refine ⟨r, s', ?_, R.st, R.ext, R.va, fun b => ?_⟩
  · unfold m_cover_function
    show Res.bind (Mw.forM m_cover_function_b4 ps (0, s)) _ = _
    rw [e, Res.bind_ok]
    rfl
  · rw [R.sem b, sem0, Bool.false_or]
end
end Dgo

/-! products over lists of bits, plain -/
namespace Dgo
open PySem L2 Mw Bd
/-- a product takes in a list of bits -/
def tkB (p bits : List Int) : Bool := (p.zip bits).all fun q => decide (q.1 = 2) || decide (q.1 = q.2)
theorem takes_in_ok {p bits : List Int} (hl : p.length ≤ 1000) : m_takes_in p bits = .ok (tkB p bits) := by
  unfold m_takes_in
  rw [zipM_ok, lcB_map (fun q : Int × Int => decide (q.1 = 2) || decide (q.1 = q.2)) (by unfold zipL; rw [List.length_zip]; omega) (fun q _ => by
    rw [eqM_ok, eqM_ok, orM_ok]
    by_cases h : q.1 = 2
    · rw [decide_eq_true h, if_pos rfl]; rfl
    · rw [decide_eq_false h, if_neg (by simp)]; rfl)]
  rw [allM_ok]
  unfold tkB zipL
  rw [List.all_map]
  rfl
theorem tkF_bits : ∀ (p bits : List Int) (i : Int) (b : Int → Bool), Marks p → p.length = bits.length → (∀ x ∈ bits, x = 0 ∨ x = 1) → (∀ k : Nat, k < bits.length → b (i + (k : Int)) = decide (gx bits (k : Int) = 1)) → tkF i p b = tkB p bits
  | [], _, i, b, _, _, _, _ => rfl
  | x :: p, [], i, b, _, hl, _, _ => by simp at hl
  | x :: p, y :: bits, i, b, hm, hl, hb, h => by
    have h0 := h 0 (by simp)
    have e0 : b i = decide (y = 1) := by
      rw [show ((0 : Nat) : Int) = 0 from rfl, Int.add_zero, gx_zero] at h0
      exact h0
    have ih := tkF_bits p bits (i + 1) b (fun z hz => hm z (by simp [hz])) (by simpa using hl) (fun z hz => hb z (by simp [hz])) fun k hk => by
      have := h (k + 1) (by simpa using hk)
      rw [show i + 1 + (k : Int) = i + ((k + 1 : Nat) : Int) by omega, this]
      rw [show ((k + 1 : Nat) : Int) = (k : Int) + 1 by omega, gx_succ _ _ (by omega)]
    unfold tkB at ih ⊢
    rw [tkF, ih, List.zip_cons_cons, List.all_cons, e0]
    congr 1
    have hx := hm x (by simp)
    have hy := hb y (by simp)
    rcases hx with rfl | rfl | rfl <;> rcases hy with rfl | rfl <;> rfl
theorem tk_bits {p bits : List Int} (hm : Marks p) (hl : p.length = bits.length) (hb : ∀ x ∈ bits, x = 0 ∨ x = 1) : tk p (bitF bits) = tkB p bits := tkF_bits p bits 0 _ hm hl hb fun k hk => by
  unfold bitF
  rw [Int.zero_add]
theorem cover_value_ok {ps : List (List Int)} {bits : List Int} (hp : ∀ p ∈ ps, p.length ≤ 1000) (hl : ps.length ≤ 1000) : m_cover_value ps bits = .ok (if (ps.any fun p => tkB p bits) = true then 1 else 0) := by
  unfold m_cover_value
  rw [lcB_map (fun p => tkB p bits) (by omega) (fun p hx => by rw [pairM_ok, Res.bind_ok]; exact takes_in_ok (hp p hx)), anyM_ok, List.any_map, b2iM_ok]
  rfl
/-- the least case that a product takes in -/
def lst : List Int → Nat
  | [] => 0
  | x :: xs => (if x = 1 then 1 else 0) + 2 * lst xs
theorem lst_bit : ∀ (p : List Int) (k : Nat), (lst p).testBit k = decide (gx p (k : Int) = 1)
  | [], k => by
    rw [lst, Nat.zero_testBit]
    symm
    exact decide_eq_false (by show ¬ ((([] : List Int)[((k : Int)).toNat]?).getD default = 1); simp)
  | x :: xs, 0 => by
    rw [lst, Nat.testBit_zero]
    show decide (((if x = 1 then 1 else 0) + 2 * lst xs) % 2 = 1) = decide (x = 1)
    by_cases h : x = 1
    · rw [if_pos h, decide_eq_true h]; exact decide_eq_true (by omega)
    · rw [if_neg h, decide_eq_false h]; exact decide_eq_false (by omega)
  | x :: xs, k + 1 => by
    rw [lst, Nat.testBit_succ]
    have : ((if x = 1 then 1 else 0) + 2 * lst xs) / 2 = lst xs := by split <;> omega
    rw [this, lst_bit xs k, show ((k + 1 : Nat) : Int) = (k : Int) + 1 by omega, gx_succ _ _ (by omega)]
theorem tk_iff {p : List Int} (hm : Marks p) : ∀ (i : Int) (b : Int → Bool), (tkF i p b = true ↔ ∀ k : Nat, k < p.length → gx p (k : Int) = 2 ∨ (decide (gx p (k : Int) = 1) = b (i + (k : Int)))) := by
  induction p with
  | nil => intro i b; simp [tkF]
  | cons x xs ih =>
    intro i b
    rw [tkF, Bool.and_eq_true, ih (fun z hz => hm z (by simp [hz])) (i + 1) b]
    constructor
    · rintro ⟨h1, h2⟩ k hk
      cases k with
      | zero =>
        rw [show ((0 : Nat) : Int) = 0 from rfl, gx_zero, Int.add_zero]
        simpa using h1
      | succ k =>
        have := h2 k (by simpa using hk)
        rw [show ((k + 1 : Nat) : Int) = (k : Int) + 1 by omega, gx_succ _ _ (by omega), show i + ((k : Int) + 1) = i + 1 + (k : Int) by omega]
        exact this
    · intro h
      refine ⟨?_, fun k hk => ?_⟩
      · have := h 0 (by simp)
        rw [show ((0 : Nat) : Int) = 0 from rfl, gx_zero, Int.add_zero] at this
        simpa using this
      · have := h (k + 1) (by simpa using hk)
        rw [show ((k + 1 : Nat) : Int) = (k : Int) + 1 by omega, gx_succ _ _ (by omega), show i + ((k : Int) + 1) = i + 1 + (k : Int) by omega] at this
        exact this
theorem tk_lst {p : List Int} (hm : Marks p) : tk p (cb (lst p)) = true := by
  unfold tk
  rw [tk_iff hm]
  intro k hk
  right
  unfold cb
  rw [Int.zero_add, Int.toNat_natCast, lst_bit]
theorem le_of_bits {a b : Nat} (h : ∀ k, a.testBit k = true → b.testBit k = true) : a ≤ b := by
  have : a = a &&& b := by
    apply Nat.eq_of_testBit_eq
    intro k
    rw [Nat.testBit_and]
    cases hk : a.testBit k with
    | false => rfl
    | true => rw [h k hk]; rfl
  rw [this]
  exact Nat.and_le_right
theorem lst_le {p : List Int} (hm : Marks p) {m : Nat} (h : tk p (cb m) = true) : lst p ≤ m := by
  apply le_of_bits
  intro k hk
  rw [lst_bit] at hk
  have hk1 : gx p (k : Int) = 1 := of_decide_eq_true hk
  by_cases hl : k < p.length
  · unfold tk at h
    rw [tk_iff hm] at h
    rcases h k hl with q | q
    · rw [hk1] at q; cases q
    · rw [hk1] at q
      unfold cb at q
      rw [Int.zero_add, Int.toNat_natCast] at q
      rw [← q]; rfl
  · exfalso
    unfold gx at hk1
    rw [Int.toNat_natCast, List.getElem?_eq_none (by omega)] at hk1
    cases hk1
theorem lst_sum : ∀ (p : List Int) (i : Nat), (((rgL 0 p.length).filter fun k => decide (gx p k = 1)).map fun k => ((2 ^ (k.toNat + i) : Nat) : Int)).sum = ((2 ^ i * lst p : Nat) : Int)
  | [], i => rfl
  | x :: xs, i => by
    rw [List.length_cons, rgL_cons, show (0 : Int) + 1 = 0 + 1 from rfl, rgL_map_succ, List.filter_cons, List.filter_map]
    have e : (rgL 0 xs.length).filter ((fun k => decide (gx (x :: xs) k = 1)) ∘ (· + 1)) = (rgL 0 xs.length).filter fun k => decide (gx xs k = 1) := by
      apply List.filter_congr
      intro k hk
      have := mem_rgL.mp hk
      show decide (gx (x :: xs) (k + 1) = 1) = _
      rw [gx_succ _ _ this.1]
    have e2 : (((rgL 0 xs.length).filter fun k => decide (gx xs k = 1)).map (· + 1)).map (fun k : Int => ((2 ^ (k.toNat + i) : Nat) : Int)) = ((rgL 0 xs.length).filter fun k => decide (gx xs k = 1)).map fun k => ((2 ^ (k.toNat + (i + 1)) : Nat) : Int) := by
      rw [List.map_map]
      apply List.map_congr_left
      intro k hk
      have := mem_rgL.mp (List.mem_filter.mp hk).1
      simp only [Function.comp]
      congr 2
      omega
    have ih := lst_sum xs (i + 1)
    have ep : 2 ^ (i + 1) * lst xs = 2 ^ i * (2 * lst xs) := by rw [Nat.pow_succ, Nat.mul_assoc]
    rw [gx_zero, e]
    by_cases h : x = 1
    · rw [if_pos (decide_eq_true h), List.map_cons, List.sum_cons, e2, ih, lst, if_pos h, Nat.mul_add, ep]
      simp
    · rw [if_neg (by simp [h]), e2, ih, lst, if_neg h, Nat.mul_add, ep]
      simp
/-- the bits of a case, as a list and as a function -/
theorem bitsL_cb (n : Nat) {c : Nat} {i : Int} (h0 : 0 ≤ i) (h : i < c) : bitF (bitsL (n : Int) c) i = cb n i := by
  unfold bitF cb
  rw [bitsL_gx _ h0 h, Nat.testBit_eq_decide_div_mod_eq]
  apply decide_eq_decide.mpr
  have : (n : Int) / ((2 ^ i.toNat : Nat) : Int) % 2 = ((n / 2 ^ i.toNat % 2 : Nat) : Int) := by simp
  rw [this]
  omega
end Dgo

/-! the operations of a table of diagrams with what they raise: what they mean -/
namespace Dgo
open PySem L2 Mw Bd
theorem pureX_k {α δ : Type} (x : α) (d : δ) : pureX (fun _ => Res.ok x) d = .ok (.ok x, d) := rfl
theorem bindK_tail {α δ : Type} (x : Xr α × δ) : bindK (.ok x) exX (fun r d => .ok (Xr.ok r, d)) = .ok x := by
  obtain ⟨x, d⟩ := x
  cases x <;> rfl
/-- a call on the table: ends well, from the state s -/
def OkX (c B : Nat) (s : Sd) (e : Xs Int Sd) (v : (Int → Bool) → Bool) : Prop := ∃ r s', e = .ok (.ok r, s') ∧ Rs c B s r s' v
section
variable {c B : Nat} {s : Sd}
theorem check_bad : ∀ {ns : List Int} {k : Int} {d : Dg}, (∃ x ∈ ns, ¬ Va d x) → m_D_check (k, d.nodes) ns = .exc 0 []
  | [], k, d, h => by obtain ⟨x, hx, _⟩ := h; cases hx
  | x :: xs, k, d, h => by
    by_cases hv : Va d x
    · have h2 : ∃ y ∈ xs, ¬ Va d y := by
        obtain ⟨y, hy, q⟩ := h
        rcases List.mem_cons.mp hy with rfl | hy
        · exact absurd hv q
        · exact ⟨y, hy, q⟩
      have ih := check_bad (k := k) h2
      unfold m_D_check at ih ⊢
      rw [Res.bind_ok] at ih ⊢
      rw [Mw.forM]
      have e := check_ok (k := k) (d := d) (ns := [x]) (by intro y hy; rw [List.mem_singleton.mp hy]; exact hv)
      unfold m_D_check at e
      rw [Res.bind_ok, Mw.forM] at e
      cases hx : m_D_check_b3 (k, d.nodes) x () with
      | ok u => rw [Res.bind_ok]; exact ih
      | exc a b => rw [hx] at e; cases e
      | stuck => rw [hx] at e; cases e
    · exact check_no hv xs
theorem St.xchoose (Z : St c B s) (hc : c ≤ 10) (hB : B + 2 ^ (c + 1) ≤ lim) {f g h : Int} (hf : Va s.2 f) (hg : Va s.2 g) (hh : Va s.2 h) :
    OkX c (B + 2 ^ (c + 1)) s (x_D_choose s f g h) (fun b => ite3 (Bd.sem s.2 f b) (Bd.sem s.2 g b) (Bd.sem s.2 h b)) := by
  obtain ⟨r, s', e, R⟩ := Z.chosen hc hB hf hg hh
  refine ⟨r, s', ?_, R⟩
  unfold x_D_choose
  have e1 : (pureX fun dP1 : Sd => (Res.bind (.ok (roD dP1)) fun s => Res.bind (consM (.ok f) (consM (.ok g) (consM (.ok h) (.ok [])))) fun a => m_D_check s a)) s = .ok (.ok (), s) := pureX_ok (check_ok (d := s.2) (k := s.1) (by
    intro x hx
    simp only [List.mem_cons, List.not_mem_nil, or_false] at hx
    rcases hx with rfl | rfl | rfl <;> assumption))
  rw [e1, bindK_ok]
  simp only [callX, pairX, pureX_k, bindK_ok, x_D_chosen, e, liftX_ok]
theorem xchoose_no {f g h : Int} (hn : ¬ Va s.2 f ∨ ¬ Va s.2 g ∨ ¬ Va s.2 h) : x_D_choose s f g h = .ok (.exc 0 [], s) := by
  unfold x_D_choose
  have e1 : (pureX fun dP1 : Sd => (Res.bind (.ok (roD dP1)) fun s => Res.bind (consM (.ok f) (consM (.ok g) (consM (.ok h) (.ok [])))) fun a => m_D_check s a)) s = .ok (.exc 0 [], s) := pureX_exc (check_bad (d := s.2) (k := s.1) (by
    rcases hn with q | q | q
    · exact ⟨f, by simp, q⟩
    · exact ⟨g, by simp, q⟩
    · exact ⟨h, by simp, q⟩))
  rw [e1]; rfl
theorem OkX.tail {B' : Nat} {e : Xs Int Sd} {v : (Int → Bool) → Bool} (h : OkX c B' s e v) : OkX c B' s (bindK e exX fun r d => .ok (Xr.ok r, d)) v := by
  obtain ⟨r, s', e, R⟩ := h
  exact ⟨r, s', by rw [e]; rfl, R⟩
theorem OkX.sem {B' : Nat} {e : Xs Int Sd} {v w : (Int → Bool) → Bool} (h : OkX c B' s e v) (q : ∀ b, v b = w b) : OkX c B' s e w := by
  obtain ⟨r, s', e, R⟩ := h
  exact ⟨r, s', e, R.st, R.ext, R.va, fun b => by rw [R.sem b, q b]⟩
theorem OkX.le {B1 B2 : Nat} {e : Xs Int Sd} {v : (Int → Bool) → Bool} (h : OkX c B1 s e v) (q : B1 ≤ B2) : OkX c B2 s e v := by
  obtain ⟨r, s', e, R⟩ := h
  exact ⟨r, s', e, R.le q⟩
theorem St.xnegate (Z : St c B s) (hc : c ≤ 10) (hB : B + 2 ^ (c + 1) ≤ lim) {f : Int} (hf : Va s.2 f) : OkX c (B + 2 ^ (c + 1)) s (x_D_negate s f) (fun b => !Bd.sem s.2 f b) := by
  unfold x_D_negate
  simp only [callX, pairX, pureX_k, bindK_ok]
  exact ((Z.xchoose hc hB hf Z.va0 Z.va1).tail).sem fun b => by rw [sem0, sem1]; cases Bd.sem s.2 f b <;> rfl
theorem St.xboth (Z : St c B s) (hc : c ≤ 10) (hB : B + 2 ^ (c + 1) ≤ lim) {f g : Int} (hf : Va s.2 f) (hg : Va s.2 g) : OkX c (B + 2 ^ (c + 1)) s (x_D_both s f g) (fun b => Bd.sem s.2 f b && Bd.sem s.2 g b) := by
  unfold x_D_both
  simp only [callX, pairX, pureX_k, bindK_ok]
  exact ((Z.xchoose hc hB hf hg Z.va0).tail).sem fun b => by rw [sem0]; cases Bd.sem s.2 f b <;> rfl
theorem St.xeither (Z : St c B s) (hc : c ≤ 10) (hB : B + 2 ^ (c + 1) ≤ lim) {f g : Int} (hf : Va s.2 f) (hg : Va s.2 g) : OkX c (B + 2 ^ (c + 1)) s (x_D_either s f g) (fun b => Bd.sem s.2 f b || Bd.sem s.2 g b) := by
  unfold x_D_either
  simp only [callX, pairX, pureX_k, bindK_ok]
  exact ((Z.xchoose hc hB hf Z.va1 hg).tail).sem fun b => by rw [sem1]; cases Bd.sem s.2 f b <;> rfl
theorem St.xwithout (Z : St c B s) (hc : c ≤ 10) (hB : B + 2 ^ (c + 1) ≤ lim) {f g : Int} (hf : Va s.2 f) (hg : Va s.2 g) : OkX c (B + 2 ^ (c + 1)) s (x_without s f g) (fun b => Bd.sem s.2 f b && !Bd.sem s.2 g b) := by
  unfold x_without
  simp only [callX, pairX, pureX_k, bindK_ok]
  exact ((Z.xchoose hc hB hg Z.va0 hf).tail).sem fun b => by rw [sem0]; cases Bd.sem s.2 g b <;> cases Bd.sem s.2 f b <;> rfl
theorem St.xvariable (Z : St c B s) (hB : B + 1 ≤ lim) {i : Int} (h0 : 0 ≤ i) (h1 : i < c) : OkX c (B + 1) s (x_D_variable s i) (fun b => b i) := by
  obtain ⟨r, s', e, R⟩ := Z.variable hB h0 h1
  refine ⟨r, s', ?_, R⟩
  unfold m_D_variable mD_variable at e
  unfold x_D_variable
  have q : ∀ z : Int, z = s.1 → notM (chainM (fun i j => decide (i ≤ j)) (fun i j => decide (i < j)) (.ok (0 : Int)) (.ok i) (.ok z)) = .ok false := fun z hz => by
    rw [hz, Z.k]
    show notM (if decide ((0 : Int) ≤ i) = true then Res.ok (decide (i < (c : Int))) else .ok false) = .ok false
    rw [if_pos (decide_eq_true h0), decide_eq_true h1]; rfl
  rw [q s.1 rfl, bif_eq, if_neg (by simp)] at e
  rw [Res.bind_ok, q (roD s).1 rfl, bif_eq, if_neg (by simp)]
  simp only [callX, pairX, pureX_k, bindK_ok, x_D_found]
  have e' : mD_found s i 0 1 = .ok (r, s') := e
  rw [e', liftX_ok, bindK_ok]
/-! ### products and covers -/
theorem xproduct_loop (hc : c ≤ 10) : ∀ (xs : List Int) (i : Nat) (B : Nat) (s : Sd) (node : Int), St c B s → Va s.2 node → Marks xs → i + xs.length ≤ c → B + xs.length * (2 ^ (c + 2) + 1) ≤ lim →
    ∃ r s', forB x_product_function_b6 (xs.mapIdx fun k x => (((k + i : Nat) : Int), x)) (node, s) = .ok (.nx (r, s')) ∧ Rs c (B + xs.length * (2 ^ (c + 2) + 1)) s r s' (fun b => Bd.sem s.2 node b && tkF (i : Int) xs b)
  | [], i, B, s, node, Z, hv, hm, hl, hB => ⟨node, s, rfl, Z.le (by simp), Ext.refl _, hv, fun b => by simp [tkF]⟩
  | x :: xs, i, B, s, node, Z, hv, hm, hl, hB => by
    rw [enumL_from]
    dsimp only
    unfold forB
    have e4 : 2 ^ (c + 2) = 2 * 2 ^ (c + 1) := by rw [Nat.pow_succ 2 (c + 1)]; omega
    have p2 : 0 < 2 ^ (c + 1) := Nat.pow_pos (by decide)
    have eB : (x :: xs).length * (2 ^ (c + 2) + 1) = 2 ^ (c + 2) + 1 + xs.length * (2 ^ (c + 2) + 1) := by rw [List.length_cons, Nat.succ_mul]; omega
    rw [eB] at hB ⊢
    have hlen : i + (xs.length + 1) ≤ c := hl
    have step : ∃ r s1, x_product_function_b6 ((i : Int), x) (node, s) = .ok (.nx (r, s1)) ∧ Rs c (B + (2 ^ (c + 2) + 1)) s r s1 (fun b => Bd.sem s.2 node b && (decide (x = 2) || decide (x = 1) == b i)) := by
      unfold x_product_function_b6
      dsimp only
      rw [neM_ok, bif_eq]
      by_cases h2 : x = 2
      · rw [decide_eq_true h2, if_neg (by simp)]
        exact ⟨node, s, rfl, Z.le (by omega), Ext.refl _, hv, fun b => by simp [h2]⟩
      · rw [decide_eq_false h2, if_pos (by rfl)]
        obtain ⟨l, s1, e1, R1⟩ := Z.xvariable (by omega) (i := (i : Int)) (by omega) (by omega)
        simp only [callX, pairX, pureX_k, bindK_ok, e1]
        have hx : x = 0 ∨ x = 1 := by
          rcases hm x (by simp) with h | h | h
          · exact .inl h
          · exact .inr h
          · exact absurd h h2
        have lit : ∃ l' s2, (iteX (pureX fun _ => (eqM (.ok x) (.ok (1 : Int)))) (pureX fun _ => (.ok l)) (callX (pureX fun _ => (.ok l)) fun s a => x_D_negate s a)) s1 = .ok (.ok l', s2) ∧ Rs c (B + 1 + 2 ^ (c + 1)) s1 l' s2 (fun b => decide (x = 1) == b i) := by
          rcases hx with rfl | rfl
          · obtain ⟨l', s2, e2, R2⟩ := R1.st.xnegate hc (by omega) R1.va
            refine ⟨l', s2, e2, R2.st, R2.ext, R2.va, fun b => ?_⟩
            rw [R2.sem b, R1.sem b]
            cases b i <;> rfl
          · refine ⟨l, s1, rfl, R1.st.le (by omega), Ext.refl _, R1.va, fun b => ?_⟩
            rw [R1.sem b]
            cases b i <;> rfl
        obtain ⟨l', s2, e2, R2⟩ := lit
        have hn2 := R2.ext.va (R1.ext.va hv)
        obtain ⟨r, s3, e3, R3⟩ := R2.st.xboth hc (by omega) hn2 R2.va
        refine ⟨r, s3, ?_, R3.st.le (by omega), (R1.ext.trans R2.ext).trans R3.ext, R3.va, fun b => ?_⟩
        · rw [e2]
          simp only [bindK_ok, e3]
        · rw [R3.sem b, R2.sem b, R1.st.sem_ext R2.st R2.ext (R1.ext.va hv), Z.sem_ext R1.st R1.ext hv, Bool.false_or]
    obtain ⟨r, s1, e1, R1⟩ := step
    rw [e1, Res.bind_ok]
    dsimp only
    obtain ⟨r', s2, e2, R2⟩ := xproduct_loop hc xs (i + 1) _ s1 r R1.st R1.va (fun y hy => hm y (by simp [hy])) (by omega) (by omega)
    refine ⟨r', s2, e2, R2.st.le (by omega), R1.ext.trans R2.ext, R2.va, fun b => ?_⟩
    rw [R2.sem b, R1.sem b, tkF, Bool.and_assoc]
    congr 2
theorem St.xproduct (Z : St c B s) (hc : c ≤ 10) {xs : List Int} (hm : Marks xs) (hl : xs.length ≤ c) (hB : B + xs.length * (2 ^ (c + 2) + 1) ≤ lim) : OkX c (B + xs.length * (2 ^ (c + 2) + 1)) s (x_product_function s xs) (tk xs) := by
  obtain ⟨r, s', e, R⟩ := xproduct_loop hc xs 0 B s 1 Z Z.va1 hm (by omega) hB
  refine ⟨r, s', ?_, R.st, R.ext, R.va, fun b => ?_⟩
  · unfold x_product_function
    show Res.bind (forB x_product_function_b6 (enumL xs) (1, s)) _ = _
    have : enumL xs = xs.mapIdx fun k x => (((k + 0 : Nat) : Int), x) := rfl
    rw [this, e, Res.bind_ok]
    rfl
  · rw [R.sem b, sem1, Bool.true_and]; rfl
theorem xcover_loop (hc : c ≤ 10) : ∀ (ps : List (List Int)) (B : Nat) (s : Sd) (node : Int), St c B s → Va s.2 node → (∀ p ∈ ps, Marks p ∧ p.length ≤ c) → B + ps.length * ((c + 1) * (2 ^ (c + 2) + 1)) ≤ lim →
    ∃ r s', forB x_cover_function_b4 ps (node, s) = .ok (.nx (r, s')) ∧ Rs c (B + ps.length * ((c + 1) * (2 ^ (c + 2) + 1))) s r s' (fun b => Bd.sem s.2 node b || ps.any fun p => tk p b)
  | [], B, s, node, Z, hv, hp, hB => ⟨node, s, rfl, Z.le (by simp), Ext.refl _, hv, fun b => by simp⟩
  | p :: ps, B, s, node, Z, hv, hp, hB => by
    unfold forB
    have e4 : 2 ^ (c + 2) = 2 * 2 ^ (c + 1) := by rw [Nat.pow_succ 2 (c + 1)]; omega
    have eB : (p :: ps).length * ((c + 1) * (2 ^ (c + 2) + 1)) = (c + 1) * (2 ^ (c + 2) + 1) + ps.length * ((c + 1) * (2 ^ (c + 2) + 1)) := by rw [List.length_cons, Nat.succ_mul]; omega
    rw [eB] at hB ⊢
    obtain ⟨hm, hl⟩ := hp p (by simp)
    have eP : p.length * (2 ^ (c + 2) + 1) ≤ c * (2 ^ (c + 2) + 1) := Nat.mul_le_mul_right _ hl
    have eC : (c + 1) * (2 ^ (c + 2) + 1) = c * (2 ^ (c + 2) + 1) + (2 ^ (c + 2) + 1) := Nat.succ_mul _ _
    obtain ⟨r1, s1, e1, R1⟩ := Z.xproduct hc hm hl (by omega)
    obtain ⟨r2, s2, e2, R2⟩ := R1.st.xeither hc (by omega) (R1.ext.va hv) R1.va
    have step : x_cover_function_b4 p (node, s) = .ok (.nx (r2, s2)) := by
      unfold x_cover_function_b4
      simp only [callX, pairX, pureX_k, bindK_ok, e1, e2]
    rw [step, Res.bind_ok]
    dsimp only
    obtain ⟨r', s3, e3, R3⟩ := xcover_loop hc ps (B + (c + 1) * (2 ^ (c + 2) + 1)) s2 r2 (R2.st.le (by omega)) R2.va (fun q hq => hp q (by simp [hq])) (by omega)
    refine ⟨r', s3, e3, R3.st.le (by omega), (R1.ext.trans R2.ext).trans R3.ext, R3.va, fun b => ?_⟩
    rw [R3.sem b, R2.sem b, R1.sem b, Z.sem_ext R1.st R1.ext hv, List.any_cons, Bool.or_assoc]
theorem St.xcover (Z : St c B s) (hc : c ≤ 10) {ps : List (List Int)} (hp : ∀ p ∈ ps, Marks p ∧ p.length ≤ c) (hB : B + ps.length * ((c + 1) * (2 ^ (c + 2) + 1)) ≤ lim) : OkX c (B + ps.length * ((c + 1) * (2 ^ (c + 2) + 1))) s (x_cover_function s ps) (fun b => ps.any fun p => tk p b) := by
  obtain ⟨r, s', e, R⟩ := xcover_loop hc ps B s 0 Z Z.va0 hp hB
  refine ⟨r, s', ?_, R.st, R.ext, R.va, fun b => ?_⟩
  · unfold x_cover_function
    show Res.bind (forB x_cover_function_b4 ps (0, s)) _ = _
    rw [e, Res.bind_ok]
    rfl
  · rw [R.sem b, sem0, Bool.false_or]
/-! ### cases -/
/-- the case that a reading of the variables is -/
def caseF (b : Int → Bool) : Nat → Nat
  | 0 => 0
  | n + 1 => caseF b n + (if b (n : Int) = true then 2 ^ n else 0)
theorem caseF_lt (b : Int → Bool) : ∀ n, caseF b n < 2 ^ n
  | 0 => by unfold caseF; decide
  | n + 1 => by
    have := caseF_lt b n
    unfold caseF
    rw [Nat.pow_succ]
    split <;> omega
theorem caseF_bit (b : Int → Bool) : ∀ (n k : Nat), k < n → (caseF b n).testBit k = b (k : Int)
  | 0, k, h => by omega
  | n + 1, k, h => by
    have lt := caseF_lt b n
    unfold caseF
    by_cases hk : k = n
    · subst hk
      by_cases q : b (k : Int) = true
      · rw [if_pos q, Nat.add_comm, Nat.testBit_two_pow_add_eq, Nat.testBit_lt_two_pow lt, q]; rfl
      · rw [if_neg q, Nat.add_zero, Nat.testBit_lt_two_pow lt]
        simpa using q
    · have h' : k < n := by omega
      by_cases q : b (n : Int) = true
      · rw [if_pos q, Nat.add_comm, Nat.testBit_two_pow_add_gt h']; exact caseF_bit b n k h'
      · rw [if_neg q, Nat.add_zero]; exact caseF_bit b n k h'
theorem cb_caseF (b : Int → Bool) {c : Nat} {i : Int} (h0 : 0 ≤ i) (h1 : i < c) : cb (caseF b c) i = b i := by
  obtain ⟨k, rfl⟩ := Int.eq_ofNat_of_zero_le h0
  unfold cb
  rw [Int.toNat_natCast]
  exact caseF_bit b c k (by omega)
theorem St.sem_case (Z : St c B s) {f : Int} (hf : Va s.2 f) (b : Int → Bool) : Bd.sem s.2 f (cb (caseF b c)) = Bd.sem s.2 f b := Z.ok.sem_congr_le hf fun i h0 h1 => cb_caseF b h0 (by have := (Z.ok.vr_ge hf).2.1; omega)
theorem tkF_congr : ∀ (p : List Int) (i : Int) (b b' : Int → Bool), (∀ k : Nat, k < p.length → b (i + (k : Int)) = b' (i + (k : Int))) → tkF i p b = tkF i p b'
  | [], _, _, _, _ => rfl
  | x :: p, i, b, b', h => by
    have h0 := h 0 (by simp)
    rw [show ((0 : Nat) : Int) = 0 from rfl, Int.add_zero] at h0
    rw [tkF, tkF, h0, tkF_congr p (i + 1) b b' fun k hk => by
      have := h (k + 1) (by simpa using hk)
      rw [show i + ((k + 1 : Nat) : Int) = i + 1 + (k : Int) by omega] at this
      exact this]
theorem tk_case {p : List Int} (hl : p.length ≤ c) (b : Int → Bool) : tk p (cb (caseF b c)) = tk p b := tkF_congr p 0 _ _ fun k hk => cb_caseF b (by omega) (by omega)
/-- a node is ZERO if no case has a one -/
theorem St.zero_iff (Z : St c B s) {f : Int} (hf : Va s.2 f) : f = 0 ↔ ∀ n : Nat, n < 2 ^ c → Bd.sem s.2 f (cb n) = false := by
  constructor
  · rintro rfl n _
    exact sem0
  · intro h
    exact Z.canon hf Z.va0 fun b => by rw [sem0, ← Z.sem_case hf b]; exact h _ (caseF_lt b c)
theorem tk_bitsL {p : List Int} (hm : Marks p) {c : Nat} (hl : p.length = c) (n : Nat) : tkB p (bitsL (n : Int) c) = tk p (cb n) := by
  rw [← tk_bits hm (by rw [bitsL_length]; exact hl) (bitsL_01 _ _)]
  exact tkF_congr p 0 _ _ fun k hk => bitsL_cb n (by omega) (by omega)
/-! ### the least number that has a property -/
def lstO (q : Nat → Bool) (n : Nat) : Option Int := ((List.range n).find? q).map (fun k : Nat => (k : Int))
theorem lstO_none {q : Nat → Bool} {n : Nat} (h : ∀ k, k < n → q k = false) : lstO q n = none := by
  unfold lstO
  rw [List.find?_eq_none.mpr (fun k hk => by rw [h k (List.mem_range.mp hk)]; simp)]
  rfl
theorem lstO_some {q : Nat → Bool} {n k : Nat} (hk : k < n) (hq : q k = true) (h : ∀ m, m < k → q m = false) : lstO q n = some (k : Int) := by
  unfold lstO
  have : (List.range n).find? q = some k := by
    rw [List.find?_eq_some_iff_append]
    refine ⟨hq, List.range k, (List.range' (k + 1) (n - k - 1)), ?_, fun a ha => by rw [h a (List.mem_range.mp ha)]; rfl⟩
    rw [List.range_eq_range', List.range_eq_range', ← List.range'_succ]
    have := List.range'_append (s := 0) (m := k) (n := n - k - 1 + 1) (step := 1)
    simp only [Nat.one_mul, Nat.zero_add] at this
    rw [this]
    congr 1
    omega
  rw [this]; rfl
theorem lstO_congr {q r : Nat → Bool} {n : Nat} (h : ∀ k, k < n → q k = r k) : lstO q n = lstO r n := by
  have key : ∀ n : Nat, (∀ k, k < n → q k = r k) → (List.range n).find? q = (List.range n).find? r := by
    intro n
    induction n with
    | zero => intro _; rfl
    | succ n ih =>
      intro h
      rw [List.range_succ, List.find?_append, List.find?_append, ih fun k hk => h k (by omega)]
      congr 1
      rw [List.find?_cons, List.find?_cons, h n (by omega), List.find?_nil, List.find?_nil]
  unfold lstO
  rw [key n h]
/-- a loop that looks for the first -/
theorem forB_first {f : Int → Unit → Res (Tn Unit (Option Int))} (q : Nat → Bool) : ∀ (n lo : Nat), (∀ k, lo ≤ k → k < lo + n → f (k : Int) () = .ok (if q k = true then .rt (some (k : Int)) else .nx ())) →
    forB f (rgL (lo : Int) n) () = .ok (match ((List.range' lo n).find? q) with | some k => .rt (some (k : Int)) | none => .nx ())
  | 0, lo, h => rfl
  | n + 1, lo, h => by
    rw [rgL_cons, List.range'_succ, List.find?_cons]
    unfold forB
    rw [h lo (by omega) (by omega)]
    by_cases hq : q lo = true
    · rw [if_pos hq, hq]; rfl
    · rw [if_neg hq]
      have hq' : q lo = false := by simpa using hq
      rw [hq', Res.bind_ok]
      dsimp only
      exact forB_first q n (lo + 1) fun k h1 h2 => h k (by omega) (by omega)
theorem first_loop {f : Int → Unit → Res (Tn Unit (Option Int))} (q : Nat → Bool) (n : Nat) (h : ∀ k : Nat, k < n → f (k : Int) () = .ok (if q k = true then .rt (some (k : Int)) else .nx ())) :
    Res.bind (forB f (rgL 0 n) ()) (Lp.el (fun (s_ : Unit) => match s_ with | () => Res.ok none) (fun r => .ok r)) = .ok (lstO q n) := by
  have e := forB_first (f := f) q n 0 fun k _ hk => h k (by omega)
  rw [show ((0 : Nat) : Int) = 0 from rfl, ← List.range_eq_range'] at e
  rw [e, Res.bind_ok]
  unfold lstO
  cases (List.range n).find? q <;> rfl
/-- first_case, as the least number -/
theorem St.xfirst (Z : St c B s) (hc : c ≤ 1000) {f : Int} (hf : Va s.2 f) : m_D_first_case (roD s) f = .ok (lstO (fun n => Bd.sem s.2 f (cb n)) (2 ^ c)) := by
  obtain ⟨o, e, h⟩ := Z.first hc hf
  rw [e]
  congr 1
  rcases h with ⟨rfl, rfl⟩ | ⟨h0, n, rfl, hn, hs, hmin⟩
  · rw [lstO_none fun k _ => sem0]
  · rw [lstO_some hn hs fun m hm => by
      cases q : Bd.sem s.2 f (cb m) with
      | false => rfl
      | true => have := hmin m q; omega]
/-! ### what the laws use: takes in -/
theorem tkB_all {p bits : List Int} (hl : p.length = bits.length) : tkB p bits = (rgL 0 bits.length).all fun k => decide (gx p k = 2) || decide (gx p k = gx bits k) := by
  rw [Bool.eq_iff_iff]
  unfold tkB
  rw [List.all_eq_true, all_rgL]
  constructor
  · intro h k hk
    have h1 : k < p.length := by omega
    have := h (p[k], bits[k]) (List.mem_iff_getElem.mpr ⟨k, by rw [List.length_zip]; omega, by rw [List.getElem_zip]⟩)
    rw [gx_nat h1, gx_nat hk]
    exact this
  · intro h q hq
    obtain ⟨k, hk, e⟩ := List.mem_iff_getElem.mp hq
    rw [List.length_zip] at hk
    have h1 : k < p.length := by omega
    have h2 : k < bits.length := by omega
    have := h k h2
    rw [gx_nat h1, gx_nat h2] at this
    rw [← e, List.getElem_zip]
    exact this
theorem law_takes_ok {p bits : List Int} (hl : p.length = bits.length) (hc : bits.length ≤ 1000) : m_law_takes p bits = .ok (tkB p bits) := by
  unfold m_law_takes
  rw [lenM_ok, rng1_ok (by omega), Res.bind_ok]
  have e : forB (m_law_takes_b3 p bits) (rgL 0 bits.length) () = .ok (if ((rgL 0 bits.length).all fun k => decide (gx p k = 2) || decide (gx p k = gx bits k)) = true then .nx () else .rt false) := by
    refine forB_all _ fun k hk => ?_
    obtain ⟨h0, h1⟩ := mem_rgL.mp hk
    unfold m_law_takes_b3
    rw [idxM_gx h0 (by omega), idxM_gx h0 (by omega), neM_ok, neM_ok, andM_ok]
    by_cases q : gx p k = 2
    · rw [decide_eq_true q]; rfl
    · rw [decide_eq_false q]
      by_cases r : gx p k = gx bits k
      · rw [decide_eq_true r]; rfl
      · rw [decide_eq_false r]; rfl
  rw [e, Res.bind_ok, ← tkB_all hl]
  cases tkB p bits <;> rfl
/-- takes(product, bits(case)) -/
theorem takes_case {p : List Int} (hm : Marks p) {c : Nat} (hl : p.length = c) (hc : c ≤ 20) (n : Nat) : (Res.bind (pairM (.ok p) (Res.bind (pairM (.ok (n : Int)) (.ok (c : Int))) fun a => m_law_bits (a.1) (a.2))) fun a => m_law_takes (a.1) (a.2)) = .ok (tk p (cb n)) := by
  rw [pairM_ok, Res.bind_ok]
  dsimp only
  rw [bits_eq _ hc, pairM_ok, Res.bind_ok]
  dsimp only
  rw [law_takes_ok (by rw [bitsL_length]; exact hl) (by rw [bitsL_length]; omega), tk_bitsL hm hl]
end
end Dgo

/-! drawn truths, and the nodes that are built of them -/
namespace Dgo
open PySem L2 Mw Bd
theorem cutL_to {α : Type} (xs : List α) (k : Nat) : cutL xs none (some (k : Int)) = xs.take k := by
  unfold cutL
  rw [HT.sIx_nat, HT.sIx_none, List.drop_zero, Nat.sub_zero]
  by_cases h : k ≤ xs.length
  · rw [Nat.min_eq_left h]
  · rw [Nat.min_eq_right (by omega), List.take_of_length_le (Nat.le_refl _), List.take_of_length_le (by omega)]
theorem cutL_from {α : Type} (xs : List α) (k : Nat) : cutL xs (some (k : Int)) none = xs.drop k := by
  unfold cutL
  rw [HT.sIx_nat, HT.sIx_none]
  by_cases h : k ≤ xs.length
  · rw [Nat.min_eq_left h, List.take_of_length_le (by rw [List.length_drop]; omega)]
  · rw [Nat.min_eq_right (by omega), List.drop_eq_nil_of_le (Nat.le_refl _), List.drop_eq_nil_of_le (by omega), List.take_nil]
theorem forB_rng {S ρ : Type} {f : Int → S → Res (Tn S ρ)} (P : Nat → S → Prop) {n : Nat} {s : S} (h0 : P 0 s) (h : ∀ (k : Nat) s, k < n → P k s → ∃ s', f (k : Int) s = .ok (.nx s') ∧ P (k + 1) s') : ∃ s', forB f (rgL 0 n) s = .ok (.nx s') ∧ P n s' := by
  have key : ∀ (m lo : Nat) (s : S), lo + m = n → P lo s → ∃ s', forB f (rgL (lo : Int) m) s = .ok (.nx s') ∧ P n s' := by
    intro m
    induction m with
    | zero =>
      intro lo s e p
      have : lo = n := by omega
      exact ⟨s, rfl, this ▸ p⟩
    | succ m ih =>
      intro lo s e p
      obtain ⟨s1, e1, p1⟩ := h lo s (by omega) p
      obtain ⟨s2, e2, p2⟩ := ih (lo + 1) s1 (by omega) p1
      refine ⟨s2, ?_, p2⟩
      rw [rgL_cons]
      unfold forB
      rw [e1, Res.bind_ok]
      exact e2
  exact key n 0 s (by omega) h0
/-- a list of the values of a function of c variables -/
structure Tru (c : Nat) (t : List Int) : Prop where
  len : t.length = 2 ^ c
  b01 : ∀ x ∈ t, x = 0 ∨ x = 1
theorem Tru.gx01 {c : Nat} {t : List Int} (T : Tru c t) {n : Nat} (h : n < 2 ^ c) : gx t (n : Int) = 0 ∨ gx t (n : Int) = 1 := T.b01 _ (gx_mem (by omega) (by rw [T.len]; omega))
theorem truth_ok {script : List Int} (hs : script.length ≤ 1000) {c : Nat} (hc : c ≤ 9) {at_ : Int} (ha : 0 ≤ at_ ∧ at_ ≤ 1000000) : ∃ t, m_law_truth script at_ (c : Int) = .ok t ∧ Tru c t := by
  have hb := lim_big
  have p2 : 0 < 2 ^ c := Nat.pow_pos (by decide)
  have p3 : 2 ^ c ≤ 2 ^ 9 := Nat.pow_le_pow_right (by decide) hc
  unfold m_law_truth
  obtain ⟨x, ex⟩ := far script hs ha
  rw [pairM_ok, Res.bind_ok]
  dsimp only
  rw [ex, shl1_ok (by omega)]
  simp only [consM_ok]
  rw [rep1_ok _ (by omega), catM_ok _ _ (by simp; omega), pairM_ok, Res.bind_ok]
  dsimp only
  obtain ⟨ps, ep, hl, hr⟩ := parts x (sizes := [10] ++ List.replicate (2 ^ c) 4) (by simp; omega) (fun z hz => by
    rcases List.mem_append.mp hz with hz | hz
    · rw [List.mem_singleton.mp hz]; omega
    · rw [List.eq_of_mem_replicate hz]; omega)
  rw [ep, Res.bind_ok]
  simp only [List.length_append, List.length_cons, List.length_nil, List.length_replicate] at hl hr
  have h0 := hr 0 ⟨by omega, by omega⟩
  have g0 : gx ([10] ++ List.replicate (2 ^ c) 4 : List Int) 0 = 10 := rfl
  rw [g0] at h0
  rw [idxM_gx (xs := ps) (i := 0) (by omega) (by omega)]
  have es : ∃ sh : Int, idxM (.ok [0, 1, 1, 2, 2, 2, 3, 3, 3, 4]) (.ok (gx ps 0)) = .ok sh := ⟨_, idxM_gx (xs := [0, 1, 1, 2, 2, 2, 3, 3, 3, 4]) h0.1 h0.2⟩
  obtain ⟨sh, es⟩ := es
  rw [es, Res.bind_ok, someM_ok, sliceM_ok, show (1 : Int) = ((1 : Nat) : Int) from rfl, cutL_from]
  rw [lcB_map (fun y => if decide (y < sh) = true then 1 else 0) (by rw [List.length_drop]; omega) (fun y _ => by rw [ltM_ok, b2iM_ok])]
  refine ⟨_, rfl, by rw [List.length_map, List.length_drop]; omega, fun y hy => ?_⟩
  obtain ⟨z, _, rfl⟩ := List.mem_map.mp hy
  split
  · exact .inr rfl
  · exact .inl rfl
/-- the values of a node -/
structure Is (c : Nat) (s : Sd) (f : Int) (t : List Int) : Prop where
  va : Va s.2 f
  sem : ∀ n : Nat, n < 2 ^ c → Bd.sem s.2 f (cb n) = decide (gx t (n : Int) = 1)
section
variable {c B : Nat} {s : Sd}
theorem Is.ext {f : Int} {t : List Int} (I : Is c s f t) (Z : St c B s) {B' : Nat} {s' : Sd} (Z' : St c B' s') (e : Ext s.2 s'.2) : Is c s' f t := ⟨e.va I.va, fun n h => by rw [Z.sem_ext Z' e I.va]; exact I.sem n h⟩
def mtF (n : Nat) : Nat → (Int → Bool) → Bool
  | 0, _ => true
  | k + 1, b => mtF n k b && (cb n (k : Int) == b (k : Int))
theorem mtF_iff (n : Nat) (b : Int → Bool) : ∀ k : Nat, mtF n k b = true ↔ ∀ j : Nat, j < k → cb n (j : Int) = b (j : Int)
  | 0 => by simp [mtF]
  | k + 1 => by
    rw [mtF, Bool.and_eq_true, mtF_iff n b k]
    constructor
    · rintro ⟨h1, h2⟩ j hj
      by_cases e : j = k
      · rw [e]; simpa using h2
      · exact h1 j (by omega)
    · intro h
      exact ⟨fun j hj => h j (by omega), by rw [h k (by omega)]; simp⟩
theorem mtF_cb {n m c : Nat} (hn : n < 2 ^ c) (hm : m < 2 ^ c) : mtF n c (cb m) = decide (n = m) := by
  rw [Bool.eq_iff_iff, mtF_iff, decide_eq_true_iff]
  constructor
  · intro h
    apply Nat.eq_of_testBit_eq
    intro i
    by_cases hi : i < c
    · exact h i hi
    · have p : 2 ^ c ≤ 2 ^ i := Nat.pow_le_pow_right (by decide) (by omega)
      rw [Nat.testBit_lt_two_pow (by omega), Nat.testBit_lt_two_pow (by omega)]
  · rintro rfl _ _; rfl
def orF (t : List Int) (c : Nat) : Nat → (Int → Bool) → Bool
  | 0, _ => false
  | k + 1, b => orF t c k b || (decide (gx t (k : Int) = 1) && mtF k c b)
theorem orF_cb (t : List Int) {c n : Nat} (hn : n < 2 ^ c) : ∀ k : Nat, k ≤ 2 ^ c → orF t c k (cb n) = (decide (n < k) && decide (gx t (n : Int) = 1))
  | 0, _ => by simp [orF]
  | k + 1, h => by
    rw [orF, orF_cb t hn k (by omega), mtF_cb (by omega) hn]
    by_cases e : k = n
    · subst e
      rw [decide_eq_false (by omega), decide_eq_true (show k < k + 1 by omega), decide_eq_true rfl]
      simp
    · rw [decide_eq_false e, Bool.and_false, Bool.or_false]
      congr 1
      exact decide_eq_decide.mpr (by omega)
theorem St.xlaw_node (Z : St c B s) (hc : c ≤ 9) {t : List Int} (T : Tru c t) (hB : B + 2 ^ c * ((c + 1) * (2 ^ (c + 2) + 1)) ≤ lim) : ∃ r s', x_law_node s (c : Int) t = .ok (.ok r, s') ∧ St c (B + 2 ^ c * ((c + 1) * (2 ^ (c + 2) + 1))) s' ∧ Ext s.2 s'.2 ∧ Is c s' r t := by
  have hb := lim_big
  have p3 : 2 ^ c ≤ 2 ^ 9 := Nat.pow_le_pow_right (by decide) hc
  have e4 : 2 ^ (c + 2) = 2 * 2 ^ (c + 1) := by rw [Nat.pow_succ 2 (c + 1)]; omega
  have eC : (c + 1) * (2 ^ (c + 2) + 1) = c * (2 ^ (c + 2) + 1) + (2 ^ (c + 2) + 1) := Nat.succ_mul _ _
  unfold x_law_node
  rw [Res.bind_ok, lenM_ok, T.len, rng1_ok (by omega), Res.bind_ok]
  obtain ⟨⟨r, s'⟩, e, R⟩ := forB_rng (f := x_law_node_b14 (c : Int) t) (fun k (x : Int × Sd) => Rs c (B + k * ((c + 1) * (2 ^ (c + 2) + 1))) s x.1 x.2 (orF t c k)) (n := 2 ^ c) (s := ((0 : Int), s)) ⟨Z.le (by omega), Ext.refl _, Z.va0, fun b => sem0⟩ fun k ⟨node, s1⟩ hk R => by
    dsimp only at R
    have hkk : (k + 1) * ((c + 1) * (2 ^ (c + 2) + 1)) ≤ 2 ^ c * ((c + 1) * (2 ^ (c + 2) + 1)) := Nat.mul_le_mul_right _ (by omega)
    have hks : (k + 1) * ((c + 1) * (2 ^ (c + 2) + 1)) = k * ((c + 1) * (2 ^ (c + 2) + 1)) + (c + 1) * (2 ^ (c + 2) + 1) := Nat.succ_mul _ _
    unfold x_law_node_b14
    dsimp only
    rw [idxM_gx (xs := t) (i := (k : Int)) (by omega) (by rw [T.len]; omega), eqM_ok, bif_eq]
    by_cases h1 : gx t (k : Int) = 1
    · rw [if_pos (decide_eq_true h1), Res.bind_ok, pairM_ok]
      have eb : (pureX (δ := Sd) fun _ => (Res.bind (.ok ((k : Int), (c : Int))) fun a => m_law_bits (a.1) (a.2))) s1 = .ok (.ok (bitsL (k : Int) c), s1) := pureX_ok (by rw [Res.bind_ok]; exact bits_eq _ (by omega))
      rw [eb, bindK_ok, rng1_ok (by omega), Res.bind_ok]
      obtain ⟨⟨part, s2⟩, e2, R2⟩ := forB_rng (f := x_law_node_b13 (bitsL (k : Int) c)) (fun j (x : Int × Sd) => Rs c (B + k * ((c + 1) * (2 ^ (c + 2) + 1)) + j * (2 ^ (c + 2) + 1)) s1 x.1 x.2 (mtF k j)) (n := c) (s := ((1 : Int), s1)) ⟨R.st.le (by omega), Ext.refl _, R.st.va1, fun b => sem1⟩ fun j ⟨part, s2⟩ hj R2 => by
        dsimp only at R2
        have hjj : (j + 1) * (2 ^ (c + 2) + 1) ≤ c * (2 ^ (c + 2) + 1) := Nat.mul_le_mul_right _ (by omega)
        have hjs : (j + 1) * (2 ^ (c + 2) + 1) = j * (2 ^ (c + 2) + 1) + (2 ^ (c + 2) + 1) := Nat.succ_mul _ _
        obtain ⟨l, s3, e3, R3⟩ := R2.st.xvariable (by omega) (i := (j : Int)) (by omega) (by omega)
        have fin : ∀ (l' : Int) (s4 : Sd), Rs c (B + k * ((c + 1) * (2 ^ (c + 2) + 1)) + j * (2 ^ (c + 2) + 1) + 1 + 2 ^ (c + 1)) s3 l' s4 (fun b => cb k (j : Int) == b (j : Int)) → ∃ s', x_law_node_j9 part (l', s4) = .ok (.nx s') ∧ Rs c (B + k * ((c + 1) * (2 ^ (c + 2) + 1)) + (j + 1) * (2 ^ (c + 2) + 1)) s1 s'.1 s'.2 (mtF k (j + 1)) := fun l' s4 R4 => by
          obtain ⟨q, s5, e5, R5⟩ := R4.st.xboth (by omega) (by omega) (R4.ext.va (R3.ext.va R2.va)) R4.va
          refine ⟨(q, s5), ?_, R5.st.le (by omega), ((R2.ext.trans R3.ext).trans R4.ext).trans R5.ext, R5.va, fun b => ?_⟩
          · unfold x_law_node_j9
            simp only [callX, pairX, pureX_k, bindK_ok, e5]
          · dsimp only
            rw [R5.sem b, R4.sem b, R3.st.sem_ext R4.st R4.ext (R3.ext.va R2.va), R2.st.sem_ext R3.st R3.ext R2.va, R2.sem b]
            rfl
        unfold x_law_node_b13
        simp only [callX, pairX, pureX_k, bindK_ok, e3]
        rw [idxM_gx (xs := bitsL (k : Int) c) (i := (j : Int)) (by omega) (by rw [bitsL_length]; omega), eqM_ok, bif_eq]
        have hbit : gx (bitsL (k : Int) c) (j : Int) = 0 ∨ gx (bitsL (k : Int) c) (j : Int) = 1 := bitsL_01 _ _ _ (gx_mem (by omega) (by rw [bitsL_length]; omega))
        have hcb : cb k (j : Int) = decide (gx (bitsL (k : Int) c) (j : Int) = 1) := by rw [← bitsL_cb k (c := c) (i := (j : Int)) (by omega) (by omega)]; rfl
        by_cases q0 : gx (bitsL (k : Int) c) (j : Int) = 0
        · rw [if_pos (decide_eq_true q0)]
          obtain ⟨l', s4, e4', R4⟩ := R3.st.xnegate (by omega) (by omega) R3.va
          rw [e4', bindK_ok]
          refine fin l' s4 ⟨R4.st, R4.ext, R4.va, fun b => ?_⟩
          rw [R4.sem b, R3.sem b, hcb, q0]
          cases b (j : Int) <;> rfl
        · rw [if_neg (by simpa using q0)]
          refine fin l s3 ⟨R3.st.le (by omega), Ext.refl _, R3.va, fun b => ?_⟩
          rw [R3.sem b, hcb, decide_eq_true (hbit.resolve_left q0)]
          cases b (j : Int) <;> rfl
      dsimp only at R2
      rw [e2, Res.bind_ok]
      obtain ⟨q, s3, e3, R3⟩ := R2.st.xeither (by omega) (by omega) (R2.ext.va R.va) R2.va
      refine ⟨(q, s3), ?_, R3.st.le (by omega), (R.ext.trans R2.ext).trans R3.ext, R3.va, fun b => ?_⟩
      · unfold Lp.el
        simp only [callX, pairX, pureX_k, bindK_ok, e3]
      · dsimp only
        rw [R3.sem b, R.st.sem_ext R2.st R2.ext R.va, R.sem b, R2.sem b, orF, decide_eq_true h1, Bool.true_and]
    · rw [if_neg (by simpa using h1)]
      refine ⟨(node, s1), rfl, R.st.le (by omega), R.ext, R.va, fun b => ?_⟩
      dsimp only
      rw [R.sem b, orF, decide_eq_false h1, Bool.false_and, Bool.or_false]
  dsimp only at R
  rw [e, Res.bind_ok]
  refine ⟨r, s', rfl, R.st, R.ext, R.va, fun n hn => ?_⟩
  rw [R.sem, orF_cb t hn _ (Nat.le_refl _), decide_eq_true hn, Bool.true_and]
theorem Is.value {f : Int} {t : List Int} (I : Is c s f t) (Z : St c B s) (T : Tru c t) {n : Nat} (hn : n < 2 ^ c) : m_D_value (roD s) f (bitsL (n : Int) c) = .ok (gx t (n : Int)) := by
  rw [Z.value I.va (bitsL_length _ _) (bitsL_01 _ _)]
  have e : Bd.sem s.2 f (bitF (bitsL (n : Int) c)) = Bd.sem s.2 f (cb n) := Z.ok.sem_congr_le I.va fun i h0 h1 => bitsL_cb n h0 (by have := (Z.ok.vr_ge I.va).2.1; omega)
  rw [e, I.sem n hn]
  rcases T.gx01 hn with q | q
  · rw [q]; rfl
  · rw [q]; rfl
end
end Dgo

namespace G84
open PySem L2 Mw Bd Dgo
theorem set_ok {p : List Int} {k : Nat} {m : Int} (hk : k < p.length) (hl : p.length ≤ 1000) : (catM (catM (sliceM (.ok p) (.ok none) (someM (.ok (k : Int)))) (consM (.ok m) (.ok []))) (sliceM (.ok p) (someM (addM (.ok (k : Int)) (.ok (1 : Int)))) (.ok none))) = .ok (p.set k m) := by
  rw [addM_ok, someM_ok, someM_ok, sliceM_ok, sliceM_ok, cutL_to, show (k : Int) + 1 = ((k + 1 : Nat) : Int) by omega, cutL_from, consM_ok, catM_ok _ _ (by rw [List.length_take]; simp; omega), catM_ok _ _ (by rw [List.length_append, List.length_take, List.length_drop]; simp; omega), List.set_eq_take_append_cons_drop, if_pos hk, List.append_assoc]
  rfl
theorem mark_set {p : List Int} (h : Marks p) {k : Nat} {m : Int} (hm : m = 0 ∨ m = 1 ∨ m = 2) : Marks (p.set k m) := fun x hx => by
  rcases List.mem_or_eq_of_mem_set hx with hx | hx
  · exact h x hx
  · rw [hx]; exact hm
/-- the product lies within the truth -/
def insB (c : Nat) (p t : List Int) : Bool := (List.range (2 ^ c)).all fun n => !(decide (gx t (n : Int) = 0) && tk p (cb n))
theorem insB_iff {c : Nat} {p t : List Int} : insB c p t = true ↔ ∀ n : Nat, n < 2 ^ c → (decide (gx t (n : Int) = 0) && tk p (cb n)) = false := by
  unfold insB
  rw [List.all_eq_true]
  constructor
  · intro h n hn
    have := h n (List.mem_range.mpr hn)
    rwa [Bool.not_eq_true'] at this
  · intro h n hn
    rw [h n (List.mem_range.mp hn)]; rfl
def byO (c : Nat) (p t : List Int) (k : Nat) : Option Int := lstO (fun n => decide (gx t (n : Int) = 0) && tk (p.set k 2) (cb n)) (2 ^ c)
section
variable {c : Nat} {p t : List Int}
theorem inside_ok (T : Tru c t) (hm : Marks p) (hl : p.length = c) (hc : c ≤ 5) : m_law_inside p t = .ok (insB c p t) := by
  have p3 : 2 ^ c ≤ 2 ^ 5 := Nat.pow_le_pow_right (by decide) hc
  unfold m_law_inside
  rw [lenM_ok, T.len, rng1_ok (by omega), Res.bind_ok]
  have e : forB (m_law_inside_b3 p t) (rgL 0 (2 ^ c)) () = .ok (if ((rgL 0 (2 ^ c)).all fun k => !(decide (gx t k = 0) && tk p (cb k.toNat))) = true then .nx () else .rt false) := by
    refine forB_all _ fun k hk => ?_
    obtain ⟨h0, h1⟩ := mem_rgL.mp hk
    obtain ⟨n, rfl⟩ := Int.eq_ofNat_of_zero_le h0
    unfold m_law_inside_b3
    rw [lenM_ok, hl, takes_case hm hl (by omega), idxM_gx h0 (by rw [T.len]; omega), eqM_ok, andM_ok, Int.toNat_natCast]
    by_cases q : gx t (n : Int) = 0
    · rw [decide_eq_true q]
      cases tk p (cb n) <;> rfl
    · rw [decide_eq_false q]; rfl
  rw [e, Res.bind_ok]
  have : ((rgL 0 (2 ^ c)).all fun k => !(decide (gx t k = 0) && tk p (cb k.toNat))) = insB c p t := by
    rw [Bool.eq_iff_iff, all_rgL]
    unfold insB
    rw [List.all_eq_true]
    simp only [List.mem_range, Int.toNat_natCast]
  rw [this]
  cases insB c p t <;> rfl
theorem law_with_ok {k : Nat} {m : Int} (hk : k < p.length) (hl : p.length ≤ 1000) : m_law_with p (k : Int) m = .ok (p.set k m) := set_ok hk hl
theorem with_mark_ok {k : Nat} {m : Int} (hk : k < p.length) (hl : p.length ≤ 1000) : m_with_mark p (k : Int) m = .ok (p.set k m) := set_ok hk hl
theorem beyond_ok (T : Tru c t) (hm : Marks p) (hl : p.length = c) (hc : c ≤ 5) {k : Nat} (hk : k < c) : m_law_beyond p (k : Int) t = .ok (byO c p t k) := by
  have p3 : 2 ^ c ≤ 2 ^ 5 := Nat.pow_le_pow_right (by decide) hc
  unfold m_law_beyond
  rw [pairM_ok, pairM_ok, Res.bind_ok]
  dsimp only
  rw [law_with_ok (by omega) (by omega), Res.bind_ok, lenM_ok, T.len, rng1_ok (by omega), Res.bind_ok]
  refine first_loop (fun n => decide (gx t (n : Int) = 0) && tk (p.set k 2) (cb n)) (2 ^ c) fun n hn => ?_
  unfold m_law_beyond_b4
  rw [lenM_ok, hl, takes_case (mark_set hm (.inr (.inr rfl))) (by rw [List.length_set]; exact hl) (by omega), idxM_gx (by omega) (by rw [T.len]; omega), eqM_ok, andM_ok]
  by_cases q : gx t (n : Int) = 0
  · rw [decide_eq_true q]
    cases tk (p.set k 2) (cb n) <;> rfl
  · rw [decide_eq_false q]; rfl
/-! ### the methods at five variables or fewer -/
variable {B : Nat} {s : Sd}
theorem pw5 (hc : c ≤ 5) : 2 ^ (c + 1) ≤ 64 := show 2 ^ (c + 1) ≤ 2 ^ 6 from Nat.pow_le_pow_right (by decide) (by omega)
theorem w5 (Z : St c B s) (hc : c ≤ 5) (hB : B + 64 ≤ 900000) {f g : Int} (hf : Va s.2 f) (hg : Va s.2 g) : OkX c (B + 64) s (x_without s f g) (fun b => Bd.sem s.2 f b && !Bd.sem s.2 g b) :=
  (Z.xwithout (by omega) (by have := pw5 hc; have := lim_big; omega) hf hg).le (by have := pw5 hc; omega)
theorem b5 (Z : St c B s) (hc : c ≤ 5) (hB : B + 64 ≤ 900000) {f g : Int} (hf : Va s.2 f) (hg : Va s.2 g) : OkX c (B + 64) s (x_D_both s f g) (fun b => Bd.sem s.2 f b && Bd.sem s.2 g b) :=
  (Z.xboth (by omega) (by have := pw5 hc; have := lim_big; omega) hf hg).le (by have := pw5 hc; omega)
theorem p5 (Z : St c B s) (hc : c ≤ 5) (hB : B + 645 ≤ 900000) (hm : Marks p) (hl : p.length = c) : OkX c (B + 645) s (x_product_function s p) (tk p) := by
  have h1 : 2 ^ (c + 2) ≤ 2 ^ 7 := Nat.pow_le_pow_right (by decide) (by omega)
  have h2 : p.length * (2 ^ (c + 2) + 1) ≤ 5 * 129 := Nat.mul_le_mul (by omega) (by omega)
  have := lim_big
  exact (Z.xproduct (by omega) hm (by omega) (by omega)).le (by omega)
theorem cv5 (Z : St c B s) (hc : c ≤ 5) (hB : B + 4644 ≤ 900000) {ps : List (List Int)} (hp : ∀ p ∈ ps, Marks p ∧ p.length = c) (h6 : ps.length ≤ 6) : OkX c (B + 4644) s (x_cover_function s ps) (fun b => ps.any fun p => tk p b) := by
  have h1 : 2 ^ (c + 2) ≤ 2 ^ 7 := Nat.pow_le_pow_right (by decide) (by omega)
  have h2 : (c + 1) * (2 ^ (c + 2) + 1) ≤ 6 * 129 := Nat.mul_le_mul (by omega) (by omega)
  have h3 : ps.length * ((c + 1) * (2 ^ (c + 2) + 1)) ≤ 6 * (6 * 129) := Nat.mul_le_mul h6 h2
  have := lim_big
  exact (Z.xcover (by omega) (fun p q => ⟨(hp p q).1, by have := (hp p q).2; omega⟩) (by omega)).le (by omega)
/-- what a call leaves behind -/
structure Lv (c B : Nat) (s s' : Sd) : Prop where
  st : St c B s'
  ext : Ext s.2 s'.2
theorem Lv.trans {B B' : Nat} {s s1 s2 : Sd} (a : Lv c B s s1) (b : Lv c B' s1 s2) : Lv c B' s s2 := ⟨b.st, a.ext.trans b.ext⟩
theorem Lv.le {B B' : Nat} {s s1 : Sd} (a : Lv c B s s1) (h : B ≤ B') : Lv c B' s s1 := ⟨a.st.le h, a.ext⟩
theorem node5 (Z : St c B s) (hc : c ≤ 5) (hB : B + 64 ≤ 900000) {f : Int} (hf : Va s.2 f) : ∃ s', x_check_node s f = .ok (.ok (), s') ∧ Lv c (B + 64) s s' := by
  obtain ⟨r, s', e, R⟩ := Z.xchoose (by omega) (by have := pw5 hc; have := lim_big; omega) Z.va1 hf Z.va0
  refine ⟨s', ?_, R.st.le (by have := pw5 hc; omega), R.ext⟩
  unfold x_check_node
  simp only [callX, pairX, pureX_k, bindK_ok, e]
theorem node_no {f : Int} (hf : ¬ Va s.2 f) : x_check_node s f = .ok (.exc 0 [], s) := by
  unfold x_check_node
  simp only [callX, pairX, pureX_k, bindK_ok, xchoose_no (s := s) (f := 1) (g := f) (h := 0) (.inr (.inl hf))]
  rfl
theorem place_ok {n k : Int} (h0 : 0 ≤ k) (h1 : k < n) : m_check_place n k = .ok () := by
  unfold m_check_place
  rw [Res.bind_ok]
  have : notM (chainM (fun i j => decide (i ≤ j)) (fun i j => decide (i < j)) (.ok (0 : Int)) (.ok k) (.ok n)) = .ok false := by
    show notM (if decide ((0 : Int) ≤ k) = true then Res.ok (decide (k < n)) else .ok false) = .ok false
    rw [if_pos (decide_eq_true h0), decide_eq_true h1]; rfl
  rw [this]; rfl
theorem place_no {n k : Int} (h : ¬ (0 ≤ k ∧ k < n)) : m_check_place n k = .exc 0 [] := by
  unfold m_check_place
  rw [Res.bind_ok]
  have : notM (chainM (fun i j => decide (i ≤ j)) (fun i j => decide (i < j)) (.ok (0 : Int)) (.ok k) (.ok n)) = .ok true := by
    show notM (if decide ((0 : Int) ≤ k) = true then Res.ok (decide (k < n)) else .ok false) = .ok true
    by_cases h0 : 0 ≤ k
    · rw [if_pos (decide_eq_true h0), decide_eq_false (by omega)]; rfl
    · rw [if_neg (by simpa using h0)]; rfl
  rw [this]; rfl
theorem not_one (T : Tru c t) {n : Nat} (hn : n < 2 ^ c) : (!decide (gx t (n : Int) = 1)) = decide (gx t (n : Int) = 0) := by
  rcases T.gx01 hn with q | q <;> rw [q] <;> rfl
theorem lies5 (Z : St c B s) (hc : c ≤ 5) (hB : B + 800 ≤ 900000) (T : Tru c t) (hm : Marks p) (hl : p.length = c) {f : Int} (I : Is c s f t) : ∃ s', x_lies_within s p f = .ok (.ok (insB c p t), s') ∧ Lv c (B + 800) s s' := by
  obtain ⟨s1, e1, L1⟩ := node5 Z hc (by omega) I.va
  obtain ⟨q, s2, e2, R2⟩ := p5 L1.st hc (by omega) hm hl
  have I1 := I.ext Z L1.st L1.ext
  have I2 := I1.ext L1.st R2.st R2.ext
  obtain ⟨r, s3, e3, R3⟩ := w5 R2.st hc (by omega) R2.va I2.va
  refine ⟨s3, ?_, R3.st.le (by omega), (L1.ext.trans R2.ext).trans R3.ext⟩
  unfold x_lies_within
  simp only [callX, pairX, map2X, pureX_k, bindK_ok, e1, e2, e3, eqM_ok]
  congr 3
  rw [Bool.eq_iff_iff, decide_eq_true_iff, R3.st.zero_iff R3.va, insB_iff]
  constructor
  · intro h n hn
    have := h n hn
    rw [R3.sem, R2.sem, I2.sem n hn, not_one T hn, Bool.and_comm] at this
    exact this
  · intro h n hn
    rw [R3.sem, R2.sem, I2.sem n hn, not_one T hn, Bool.and_comm]
    exact h n hn
theorem beyond5 (Z : St c B s) (hc : c ≤ 5) (hB : B + 800 ≤ 900000) (T : Tru c t) (hm : Marks p) (hl : p.length = c) {f : Int} (I : Is c s f t) {k : Nat} (hk : k < c) : ∃ s', x_beyond_case s p (k : Int) f = .ok (.ok (byO c p t k), s') ∧ Lv c (B + 800) s s' := by
  obtain ⟨s1, e1, L1⟩ := node5 Z hc (by omega) I.va
  obtain ⟨q, s2, e2, R2⟩ := p5 (p := p.set k 2) L1.st hc (by omega) (mark_set hm (.inr (.inr rfl))) (by rw [List.length_set]; exact hl)
  have I1 := I.ext Z L1.st L1.ext
  have I2 := I1.ext L1.st R2.st R2.ext
  obtain ⟨r, s3, e3, R3⟩ := w5 R2.st hc (by omega) R2.va I2.va
  refine ⟨s3, ?_, R3.st.le (by omega), (L1.ext.trans R2.ext).trans R3.ext⟩
  unfold x_beyond_case
  have e4 : (Res.bind (pairM (lenM (.ok p)) (.ok (k : Int))) fun a => m_check_place (a.1) (a.2)) = .ok () := by
    rw [lenM_ok, pairM_ok, Res.bind_ok]
    exact place_ok (by omega) (by omega)
  have e5 : (Res.bind (pairM (.ok p) (pairM (.ok (k : Int)) (.ok (2 : Int)))) fun a => m_with_mark (a.1) (a.2.1) (a.2.2)) = .ok (p.set k 2) := by
    rw [pairM_ok, pairM_ok, Res.bind_ok]
    dsimp only
    exact with_mark_ok (by omega) (by omega)
  have e6 := R3.st.xfirst (by omega) R3.va
  simp only [callX, pairX, readX, pureX_k, bindK_ok, e1, e4, e5, e2, e3, e6]
  unfold byO
  congr 3
  refine lstO_congr fun n hn => ?_
  rw [R3.sem, R2.sem, I2.sem n hn, not_one T hn, Bool.and_comm]
end
end G84

namespace G84
open PySem L2 Mw Bd Dgo
section
variable {c B : Nat} {s : Sd} {p t : List Int}
theorem lcX_ok {β : Type} {f : Int → Sd → Xs β Sd} (g : Int → β) (cost : Nat) (s0 : Sd) : ∀ (xs : List Int) (B : Nat) (s : Sd), (∀ x ∈ xs, ∀ B s, St c B s → Ext s0.2 s.2 → B + cost ≤ 900000 → ∃ s', f x s = .ok (.ok (g x), s') ∧ Lv c (B + cost) s s') → St c B s → Ext s0.2 s.2 → B + xs.length * cost ≤ 900000 → ∃ s', lcX f xs s = .ok (.ok (xs.map g), s') ∧ Lv c (B + xs.length * cost) s s'
  | [], B, s, h, Z, e, hB => ⟨s, rfl, Z.le (by omega), Ext.refl _⟩
  | x :: xs, B, s, h, Z, e, hB => by
    rw [List.length_cons, Nat.succ_mul] at hB ⊢
    obtain ⟨s1, e1, L1⟩ := h x (by simp) B s Z e (by omega)
    obtain ⟨s2, e2, L2⟩ := lcX_ok g cost s0 xs (B + cost) s1 (fun y hy => h y (by simp [hy])) L1.st (e.trans L1.ext) (by omega)
    refine ⟨s2, ?_, (L1.trans L2).le (by omega)⟩
    unfold lcX
    rw [e1, bindK_ok, e2]
    rfl
/-- the product is a prime of the truth -/
def prB (c : Nat) (p t : List Int) : Bool := insB c p t && (List.range c).all fun k => decide (gx p (k : Int) = 2) || (byO c p t k).isSome
theorem mem_places {x : Int} (h : x ∈ ((enumL p).filter fun y => !decide (y.2 = 2)).map fun y => y.1) : ∃ k : Nat, x = (k : Int) ∧ k < p.length ∧ gx p (k : Int) ≠ 2 := by
  obtain ⟨y, hy, rfl⟩ := List.mem_map.mp h
  obtain ⟨h1, h2⟩ := List.mem_filter.mp hy
  unfold enumL at h1
  obtain ⟨k, hk, e⟩ := List.mem_iff_getElem.mp h1
  rw [List.length_mapIdx] at hk
  rw [List.getElem_mapIdx] at e
  subst e
  exact ⟨k, rfl, hk, by rw [gx_nat hk]; simpa using h2⟩
theorem places_mem {k : Nat} (hk : k < p.length) (h : gx p (k : Int) ≠ 2) : (k : Int) ∈ ((enumL p).filter fun y => !decide (y.2 = 2)).map fun y => y.1 := by
  refine List.mem_map.mpr ⟨((k : Int), p[k]), List.mem_filter.mpr ⟨?_, ?_⟩, rfl⟩
  · unfold enumL
    exact List.mem_iff_getElem.mpr ⟨k, by rw [List.length_mapIdx]; exact hk, by rw [List.getElem_mapIdx]⟩
  · rw [gx_nat hk] at h
    simpa using h
theorem prime5 (Z : St c B s) (hc : c ≤ 5) (hB : B + 4800 ≤ 900000) (T : Tru c t) (hm : Marks p) (hl : p.length = c) {f : Int} (I : Is c s f t) : ∃ s', x_is_prime s p f = .ok (.ok (prB c p t), s') ∧ Lv c (B + 4800) s s' := by
  have hb := lim_big
  obtain ⟨s1, e1, L1⟩ := lies5 Z hc (by omega) T hm hl I
  unfold x_is_prime
  simp only [callX, pairX, mapX, pureX_k, bindK_ok, e1]
  unfold prB
  cases hi : insB c p t with
  | false =>
    rw [if_pos (by rfl)]
    exact ⟨s1, rfl, L1.le (by omega)⟩
  | true =>
    rw [if_neg (by simp)]
    have hen : (enumL p).length = p.length := by unfold enumL; rw [List.length_mapIdx]
    rw [enumM_ok, lcB_ok (fun y : Int × Int => !decide (y.2 = 2)) (fun y => y.1) (by omega) (fun y _ => by rw [neM_ok]) (fun y _ _ => rfl), Res.bind_ok]
    have hml : (((enumL p).filter fun y => !decide (y.2 = 2)).map fun y => y.1).length ≤ 5 := by
      rw [List.length_map]
      exact Nat.le_trans (List.length_filter_le _ _) (by omega)
    obtain ⟨s2, e2, L2⟩ := lcX_ok (c := c) (f := fun (x4 : Int) (d : Sd) => bindX (x_beyond_case d p x4 f) fun x d => pureX (fun _ => notNM (.ok x)) d) (fun x => (byO c p t x.toNat).isSome) 800 s1 (((enumL p).filter fun y => !decide (y.2 = 2)).map fun y => y.1) (B + 800) s1 (fun x hx B' s' Z' e' hB' => by
      obtain ⟨k, rfl, hk, _⟩ := mem_places hx
      obtain ⟨s3, e3, L3⟩ := beyond5 Z' hc hB' T hm hl ((I.ext Z L1.st L1.ext).ext L1.st Z' e') (k := k) (by omega)
      refine ⟨s3, ?_, L3⟩
      rw [e3]
      rw [Int.toNat_natCast]
      cases byO c p t k <;> rfl) L1.st (Ext.refl _) (by omega)
    have e3 : lcBX (fun (x4 : Int) (d : Sd) => bindX (x_beyond_case d p x4 f) fun x d => pureX (fun _ => notNM (.ok x)) d) (.ok (((enumL p).filter fun y => !decide (y.2 = 2)).map fun y => y.1)) s1 = .ok (.ok ((((enumL p).filter fun y => !decide (y.2 = 2)).map fun y => y.1).map fun x => (byO c p t x.toNat).isSome), s2) := by
      unfold lcBX
      dsimp only
      rw [if_pos (by omega)]
      exact e2
    refine ⟨s2, ?_, (L1.trans L2).le (by omega)⟩
    have e4 : bindX (lcBX (fun (x4 : Int) (d : Sd) => bindX (x_beyond_case d p x4 f) fun x d => pureX (fun _ => notNM (.ok x)) d) (.ok (((enumL p).filter fun y => !decide (y.2 = 2)).map fun y => y.1)) s1) (fun x d => pureX (fun _ => allM (.ok x)) d) = .ok (.ok (((((enumL p).filter fun y => !decide (y.2 = 2)).map fun y => y.1).map fun x => (byO c p t x.toNat).isSome).all fun x => x), s2) := by
      rw [e3]
      simp only [bindX, bindK_ok, allM_ok, pureX_k]
      rfl
    refine Eq.trans (congrArg (fun z => bindK z exX fun r d => .ok (Xr.ok r, d)) e4) ?_
    rw [bindK_ok]
    congr 3
    rw [Bool.true_and, Bool.eq_iff_iff, List.all_eq_true, List.all_eq_true]
    constructor
    · intro h k hk
      have hk := List.mem_range.mp hk
      by_cases q : gx p (k : Int) = 2
      · rw [decide_eq_true q]; rfl
      · rw [decide_eq_false q, Bool.false_or]
        have := h (byO c p t k).isSome (List.mem_map.mpr ⟨(k : Int), places_mem (by omega) q, by rw [Int.toNat_natCast]⟩)
        exact this
    · intro h x hx
      obtain ⟨y, hy, rfl⟩ := List.mem_map.mp hx
      obtain ⟨k, rfl, hk, q⟩ := mem_places hy
      have := h k (List.mem_range.mpr (by omega))
      rw [decide_eq_false q, Bool.false_or] at this
      rw [Int.toNat_natCast]
      exact this
/-! ### own cases -/
def ownO (c : Nat) (ps : List (List Int)) (t : List Int) (k : Nat) : Option Int := lstO (fun n => (decide (gx t (n : Int) = 1) && tk (gx ps (k : Int)) (cb n)) && !((ps.take k ++ ps.drop (k + 1)).any fun p => tk p (cb n))) (2 ^ c)
theorem rest_any {ps : List (List Int)} {k : Nat} (hk : k < ps.length) (q : List Int → Bool) : ((ps.take k ++ ps.drop (k + 1)).any q) = true ↔ ∃ j : Nat, j < ps.length ∧ j ≠ k ∧ q (gx ps (j : Int)) = true := by
  rw [List.any_eq_true]
  constructor
  · rintro ⟨p, hp, h⟩
    rcases List.mem_append.mp hp with hp | hp
    · obtain ⟨j, hj, rfl⟩ := List.mem_iff_getElem.mp hp
      rw [List.length_take] at hj
      rw [List.getElem_take] at h
      exact ⟨j, by omega, by omega, by rw [gx_nat (by omega)]; exact h⟩
    · obtain ⟨j, hj, rfl⟩ := List.mem_iff_getElem.mp hp
      rw [List.length_drop] at hj
      rw [List.getElem_drop] at h
      exact ⟨k + 1 + j, by omega, by omega, by rw [gx_nat (by omega)]; exact h⟩
  · rintro ⟨j, hj, hjk, h⟩
    rw [gx_nat hj] at h
    refine ⟨ps[j], List.mem_append.mpr ?_, h⟩
    by_cases hlt : j < k
    · exact .inl (List.mem_iff_getElem.mpr ⟨j, by rw [List.length_take]; omega, by rw [List.getElem_take]⟩)
    · refine .inr (List.mem_iff_getElem.mpr ⟨j - (k + 1), by rw [List.length_drop]; omega, ?_⟩)
      rw [List.getElem_drop]
      congr 1
      omega
theorem own_ok {ps : List (List Int)} (T : Tru c t) (hp : ∀ p ∈ ps, Marks p ∧ p.length = c) (h6 : ps.length ≤ 6) (hc : c ≤ 5) {k : Nat} (hk : k < ps.length) : m_law_own ps (k : Int) t (c : Int) = .ok (ownO c ps t k) := by
  have p3 : 2 ^ c ≤ 2 ^ 5 := Nat.pow_le_pow_right (by decide) hc
  have tko : ∀ (p : List Int) (n : Nat), Marks p → p.length = c → (Res.bind (pairM (.ok p) (.ok (bitsL (n : Int) c))) fun a => m_law_takes (a.1) (a.2)) = .ok (tk p (cb n)) := fun p n hm hl => by
    have := takes_case hm hl (show c ≤ 20 by omega) n
    rw [pairM_ok, Res.bind_ok] at this
    dsimp only at this
    rw [bits_eq _ (by omega)] at this
    exact this
  unfold m_law_own
  rw [lenM_ok, T.len, rng1_ok (by omega), Res.bind_ok]
  refine first_loop (fun n => (decide (gx t (n : Int) = 1) && tk (gx ps (k : Int)) (cb n)) && !((ps.take k ++ ps.drop (k + 1)).any fun p => tk p (cb n))) (2 ^ c) fun n hn => ?_
  have hpk := hp _ (gx_mem (xs := ps) (i := (k : Int)) (by omega) (by omega))
  unfold m_law_own_b7
  rw [pairM_ok, Res.bind_ok]
  dsimp only
  rw [bits_eq _ (by omega), Res.bind_ok, idxM_gx (xs := t) (by omega) (by rw [T.len]; omega), eqM_ok, idxM_gx (xs := ps) (i := (k : Int)) (by omega) (by omega), tko _ n hpk.1 hpk.2, andM_ok]
  by_cases q1 : gx t (n : Int) = 1
  · rw [decide_eq_true q1, if_pos rfl, bif_eq, Bool.true_and]
    cases q2 : tk (gx ps (k : Int)) (cb n) with
    | false => rfl
    | true =>
      rw [if_pos rfl, lenM_ok, rng1_ok (by omega)]
      rw [lcB_filter (fun x : Int => !decide (x = (k : Int)) && tk (gx ps x) (cb n)) (by rw [rgL_length]; omega) (fun x hx => by
        obtain ⟨h0, h1⟩ := mem_rgL.mp hx
        have hpx := hp _ (gx_mem (xs := ps) (i := x) h0 (by omega))
        rw [neM_ok, idxM_gx (xs := ps) h0 (by omega), tko _ n hpx.1 hpx.2, andM_ok]
        by_cases e : x = (k : Int)
        · rw [decide_eq_true e]; rfl
        · rw [decide_eq_false e]; rfl), Res.bind_ok, lenM_ok, eqM_ok, bif_eq, Bool.true_and]
      cases q3 : (ps.take k ++ ps.drop (k + 1)).any fun p => tk p (cb n) with
      | true =>
        obtain ⟨j, hj, hjk, h⟩ := (rest_any hk _).mp q3
        have hm : ((j : Nat) : Int) ∈ (rgL 0 ps.length).filter fun x : Int => !decide (x = (k : Int)) && tk (gx ps x) (cb n) := List.mem_filter.mpr ⟨mem_rgL.mpr ⟨by omega, by omega⟩, by rw [decide_eq_false (by omega), h]; rfl⟩
        have hpos := List.length_pos_of_mem hm
        rw [if_neg (by simp only [decide_eq_true_eq]; omega)]
        rfl
      | false =>
        have hnil : (rgL 0 ps.length).filter (fun x : Int => !decide (x = (k : Int)) && tk (gx ps x) (cb n)) = [] := by
          rw [List.filter_eq_nil_iff]
          intro x hx hq
          obtain ⟨h0, h1⟩ := mem_rgL.mp hx
          obtain ⟨j, rfl⟩ := Int.eq_ofNat_of_zero_le h0
          rw [Bool.and_eq_true] at hq
          have hne : ¬ ((j : Int) = (k : Int)) := by simpa using hq.1
          have : ((ps.take k ++ ps.drop (k + 1)).any fun p => tk p (cb n)) = true := (rest_any hk _).mpr ⟨j, by omega, by omega, hq.2⟩
          rw [q3] at this
          cases this
        rw [hnil]
        rfl
  · rw [decide_eq_false q1]; rfl
theorem own5 (Z : St c B s) (hc : c ≤ 5) (hB : B + 6000 ≤ 900000) (T : Tru c t) {ps : List (List Int)} (hp : ∀ p ∈ ps, Marks p ∧ p.length = c) (h6 : ps.length ≤ 6) {f : Int} (I : Is c s f t) {k : Nat} (hk : k < ps.length) : ∃ s', x_own_case s ps (k : Int) f = .ok (.ok (ownO c ps t k), s') ∧ Lv c (B + 6000) s s' := by
  have hpk := hp _ (gx_mem (xs := ps) (i := (k : Int)) (by omega) (by omega))
  obtain ⟨s1, e1, L1⟩ := node5 Z hc (by omega) I.va
  obtain ⟨q, s2, e2, R2⟩ := p5 L1.st hc (by omega) hpk.1 hpk.2
  have I1 := I.ext Z L1.st L1.ext
  have I2 := I1.ext L1.st R2.st R2.ext
  obtain ⟨o, s3, e3, R3⟩ := b5 R2.st hc (by omega) R2.va I2.va
  obtain ⟨r, s4, e4, R4⟩ := cv5 (ps := ps.take k ++ ps.drop (k + 1)) R3.st hc (by omega) (fun p h => hp p (by
    rcases List.mem_append.mp h with h | h
    · exact List.mem_of_mem_take h
    · exact List.mem_of_mem_drop h)) (by rw [List.length_append, List.length_take, List.length_drop]; omega)
  have vo := R4.ext.va R3.va
  obtain ⟨w, s5, e5, R5⟩ := w5 R4.st hc (by omega) vo R4.va
  refine ⟨s5, ?_, R5.st.le (by omega), (((L1.ext.trans R2.ext).trans R3.ext).trans R4.ext).trans R5.ext⟩
  unfold x_own_case
  have e6 : (Res.bind (pairM (lenM (.ok ps)) (.ok (k : Int))) fun a => m_check_place (a.1) (a.2)) = .ok () := by
    rw [lenM_ok, pairM_ok, Res.bind_ok]
    exact place_ok (by omega) (by omega)
  have e7 : idxM (.ok ps) (.ok (k : Int)) = .ok (gx ps (k : Int)) := idxM_gx (by omega) (by omega)
  have e8 : catM (sliceM (.ok ps) (.ok none) (someM (.ok (k : Int)))) (sliceM (.ok ps) (someM (addM (.ok (k : Int)) (.ok (1 : Int)))) (.ok none)) = .ok (ps.take k ++ ps.drop (k + 1)) := by
    rw [addM_ok, someM_ok, someM_ok, sliceM_ok, sliceM_ok, cutL_to, show (k : Int) + 1 = ((k + 1 : Nat) : Int) by omega, cutL_from, catM_ok _ _ (by rw [List.length_take, List.length_drop]; omega)]
  have e9 := R5.st.xfirst (by omega) R5.va
  simp only [callX, pairX, readX, pureX_k, bindK_ok, e1, e6, e7, e8, e2, e3, e4, e5, e9]
  unfold ownO
  congr 3
  refine lstO_congr fun n hn => ?_
  rw [R5.sem, R4.sem, R3.st.sem_ext R4.st R4.ext R3.va, R3.sem, R2.sem, I2.sem n hn, Bool.and_comm (tk _ _)]
/-! ### one product -/
theorem same_ok (o : Option Int) : m_law_same o o = .ok true := by
  unfold m_law_same
  cases o with
  | none => rfl
  | some x =>
    show Res.ite (.ok false) _ (andM (Res.bind (.ok (some x)) fun a => m_law_is_integer a) (eqM (.ok (some x)) (.ok (some x)))) = _
    rw [bif_eq, if_neg (by simp), Res.bind_ok, isint, eqM_ok, andM_ok, decide_eq_true rfl]; rfl
theorem right5 (Z : St c B s) (hc : c ≤ 5) (hB : B + 9600 ≤ 900000) (T : Tru c t) (hm : Marks p) (hl : p.length = c) {f : Int} (I : Is c s f t) : ∃ s', x_law_right_product s p f t = .ok (.ok true, s') ∧ Lv c (B + 9600) s s' := by
  have hb := lim_big
  obtain ⟨s1, e1, L1⟩ := lies5 Z hc (by omega) T hm hl I
  have I1 := I.ext Z L1.st L1.ext
  obtain ⟨⟨pr, s2⟩, e2, L2, hpr⟩ := forB_rng (f := x_law_right_product_b11 p f t) (fun k (x : Bool × Sd) => Lv c (B + 800 + k * 800) s1 x.2 ∧ x.1 = (insB c p t && (List.range k).all fun k => decide (gx p (k : Int) = 2) || (byO c p t k).isSome)) (n := c) (s := (insB c p t, s1)) ⟨⟨L1.st, Ext.refl _⟩, by simp⟩ fun k ⟨pr, s2⟩ hk ⟨L2, hpr⟩ => by
    dsimp only at L2 hpr
    obtain ⟨s3, e3, L3⟩ := beyond5 L2.st hc (by omega) T hm hl (I1.ext L1.st L2.st L2.ext) hk
    have ed : (Res.bind (pairM (.ok p) (pairM (.ok (k : Int)) (.ok t))) fun a => m_law_beyond (a.1) (a.2.1) (a.2.2)) = .ok (byO c p t k) := by
      rw [pairM_ok, pairM_ok, Res.bind_ok]
      exact beyond_ok T hm hl hc hk
    unfold x_law_right_product_b11
    simp only [callX, pairX, mapX, pureX_k, bindK_ok, ed, e3, same_ok]
    rw [if_neg (by simp), idxM_gx (xs := p) (i := (k : Int)) (by omega) (by omega), neM_ok, andM_ok]
    have hnext : ∀ b : Bool, b = (pr && (decide (gx p (k : Int) = 2) || (byO c p t k).isSome)) → b = (insB c p t && (List.range (k + 1)).all fun k => decide (gx p (k : Int) = 2) || (byO c p t k).isSome) := fun b h => by
      rw [h, hpr, List.range_succ, List.all_append, List.all_cons, List.all_nil, Bool.and_true, Bool.and_assoc]
    by_cases q : gx p (k : Int) = 2
    · rw [decide_eq_true q]
      refine ⟨(pr, s3), rfl, (L2.trans L3).le (by omega), hnext _ ?_⟩
      rw [decide_eq_true q]; simp
    · rw [decide_eq_false q]
      cases ho : byO c p t k with
      | none =>
        refine ⟨(false, s3), rfl, (L2.trans L3).le (by omega), hnext _ ?_⟩
        rw [decide_eq_false q, ho]; simp
      | some x =>
        refine ⟨(pr, s3), rfl, (L2.trans L3).le (by omega), hnext _ ?_⟩
        rw [decide_eq_false q, ho]; simp
  dsimp only at L2 hpr
  obtain ⟨s3, e3, L3⟩ := prime5 L2.st hc (by omega) T hm hl (I1.ext L1.st L2.st L2.ext)
  refine ⟨s3, ?_, ((L1.trans L2).trans L3).le (by omega)⟩
  have ei : (Res.bind (pairM (.ok p) (.ok t)) fun a => m_law_inside (a.1) (a.2)) = .ok (insB c p t) := by
    rw [pairM_ok, Res.bind_ok]
    exact inside_ok T hm hl hc
  unfold x_law_right_product
  simp only [callX, pairX, mapX, pureX_k, bindK_ok, ei, e1]
  rw [Res.bind_ok, notM_ok, neM_ok, decide_eq_true rfl, orM_ok, if_neg (by simp), bif_eq, if_neg (by simp), Res.bind_ok, lenM_ok, hl, rng1_ok (by omega), Res.bind_ok, e2, Res.bind_ok]
  unfold Lp.el
  simp only [e3, bindK_ok]
  rw [Res.bind_ok, eqM_ok, andM_ok, if_pos rfl, decide_eq_true (by rw [hpr]; rfl)]
  rfl
end
end G84

namespace G84
open PySem L2 Mw Bd Dgo
section
variable {c B : Nat} {s : Sd} {p t : List Int}
theorem bits_marks (n : Int) (c : Nat) : Marks (bitsL n c) := fun x hx => by
  rcases bitsL_01 n c x hx with h | h
  · exact .inl h
  · exact .inr (.inl h)
theorem product_ok {script : List Int} (hs : script.length ≤ 1000) (hc : c ≤ 5) (T : Tru c t) {at_ : Int} (ha : 0 ≤ at_ ∧ at_ ≤ 1000000) : ∃ p, m_law_product script at_ (c : Int) t = .ok p ∧ Marks p ∧ p.length = c := by
  have hb := lim_big
  have p3 : 2 ^ c ≤ 2 ^ 5 := Nat.pow_le_pow_right (by decide) hc
  unfold m_law_product
  obtain ⟨x, ex⟩ := far script hs ha
  rw [pairM_ok, Res.bind_ok]
  dsimp only
  rw [ex]
  simp only [consM_ok]
  rw [rep1_ok _ (by omega), catM_ok _ _ (by simp; omega), pairM_ok, Res.bind_ok]
  dsimp only
  obtain ⟨ps, ep, hl, hr⟩ := parts x (sizes := [5, 32, 6, 5, 2] ++ List.replicate c 3) (by simp; omega) (fun z hz => by
    rcases List.mem_append.mp hz with hz | hz
    · simp only [List.mem_cons, List.not_mem_nil, or_false] at hz
      rcases hz with rfl | rfl | rfl | rfl | rfl <;> omega
    · rw [List.eq_of_mem_replicate hz]; omega)
  rw [ep, Res.bind_ok]
  simp only [List.length_append, List.length_cons, List.length_nil, List.length_replicate] at hl hr
  have h0 := hr 0 ⟨by omega, by omega⟩
  have h1 := hr 1 ⟨by omega, by omega⟩
  have h2 := hr 2 ⟨by omega, by omega⟩
  have h3 := hr 3 ⟨by omega, by omega⟩
  have h4 := hr 4 ⟨by omega, by omega⟩
  have g4 : gx ([5, 32, 6, 5, 2] ++ List.replicate c 3 : List Int) 4 = 2 := rfl
  rw [g4] at h4
  rw [lenM_ok, T.len, rng1_ok (by omega), lcB_filter (fun n => decide (gx t n = 1)) (by rw [rgL_length]; omega) (fun n hn => by
    obtain ⟨a, b⟩ := mem_rgL.mp hn
    rw [idxM_gx a (by rw [T.len]; omega), eqM_ok]), Res.bind_ok]
  rw [idxM_gx (xs := ps) (i := 0) (by omega) (by omega), idxM_gx (xs := ps) (i := 1) (by omega) (by omega), idxM_gx (xs := ps) (i := 3) (by omega) (by omega), idxM_gx (xs := ps) (i := 4) (by omega) (by omega)]
  have hones : ((rgL 0 (2 ^ c)).filter fun n => decide (gx t n = 1)).length ≤ 32 := Nat.le_trans (List.length_filter_le _ _) (by rw [rgL_length]; omega)
  generalize ((rgL 0 (2 ^ c)).filter fun n => decide (gx t n = 1)) = ones at hones
  rw [lenM_ok, eqM_ok, eqM_ok, orM_ok]
  have drawn : ∃ p, Res.bind (sliceM (.ok ps) (someM (.ok (5 : Int))) (.ok none)) .ok = .ok p ∧ Marks p ∧ p.length = c := by
    rw [someM_ok, sliceM_ok, show (5 : Int) = ((5 : Nat) : Int) from rfl, cutL_from]
    refine ⟨_, rfl, fun y hy => ?_, by rw [List.length_drop]; omega⟩
    obtain ⟨j, hj, rfl⟩ := List.mem_iff_getElem.mp hy
    rw [List.length_drop] at hj
    rw [List.getElem_drop]
    have := hr ((5 + j : Nat) : Int) ⟨by omega, by omega⟩
    rw [gx_nat (by omega), gx_nat (by simp; omega), List.getElem_append_right (by simp)] at this
    simp only [List.getElem_replicate] at this
    omega
  have take : 0 < ones.length → ∃ p, (Res.bind (Res.bind (Res.bind (pairM (idxM (.ok ones) (modM (Res.bind (.ok (gx ps 1)) .ok) (.ok (ones.length : Int)))) (.ok (c : Int))) fun a => m_law_bits (a.1) (a.2)) .ok) fun (p_product : (List Int)) =>
    (Res.bind (Res.bind (rng1M (.ok (c : Int))) fun xs => Mw.forM (m_law_product_b13 (c : Int) t ps) xs p_product) (fun (p_product : (List Int)) => (Res.ite (andM (eqM (.ok (gx ps 0)) (.ok (1 : Int))) (gtM (.ok (c : Int)) (.ok (0 : Int))))
    (Res.bind (Res.bind (pairM (.ok p_product) (pairM (modM (Res.bind (.ok (gx ps 3)) .ok) (.ok (c : Int))) (.ok (gx ps 4)))) fun a => m_law_with (a.1) (a.2.1) (a.2.2)) fun (p_product : (List Int)) =>
    (m_law_product_j11 p_product))
    (m_law_product_j11 p_product))))) = .ok p ∧ Marks p ∧ p.length = c := fun hpos => by
    have m0 : 0 ≤ gx ps 1 % (ones.length : Int) := Int.emod_nonneg _ (by omega)
    have m1 : gx ps 1 % (ones.length : Int) < ones.length := Int.emod_lt_of_pos _ (by omega)
    rw [Res.bind_ok, mod_ok (by omega), idxM_gx m0 m1, pairM_ok, Res.bind_ok]
    dsimp only
    rw [bits_eq _ (by omega), Res.bind_ok, Res.bind_ok, rng1_ok (by omega), Res.bind_ok]
    obtain ⟨q, eq, hq1, hq2⟩ := forM_rng (f := m_law_product_b13 (c : Int) t ps) (fun k (x : List Int) => Marks x ∧ x.length = c) (n := c) (s := bitsL (gx ones (gx ps 1 % (ones.length : Int))) c) ⟨bits_marks _ _, bitsL_length _ _⟩ 0 fun k x hk ⟨hx1, hx2⟩ => by
      unfold m_law_product_b13
      rw [idxM_gx (xs := ps) (i := 2) (by omega) (by omega), addM_ok, Res.bind_ok, mod_ok (by omega), pairM_ok, pairM_ok, Res.bind_ok]
      dsimp only
      have n0 : 0 ≤ (gx ps 2 + (0 + (k : Int))) % (c : Int) := Int.emod_nonneg _ (by omega)
      have n1 : (gx ps 2 + (0 + (k : Int))) % (c : Int) < (c : Int) := Int.emod_lt_of_pos _ (by omega)
      generalize (gx ps 2 + (0 + (k : Int))) % (c : Int) = m at n0 n1
      obtain ⟨m, rfl⟩ := Int.eq_ofNat_of_zero_le n0
      have hset := mark_set hx1 (k := m) (m := 2) (.inr (.inr rfl))
      rw [law_with_ok (by omega) (by omega), Res.bind_ok, pairM_ok, Res.bind_ok]
      dsimp only
      rw [inside_ok T hset (by rw [List.length_set]; exact hx2) hc, bif_eq]
      split
      · exact ⟨_, rfl, hset, by rw [List.length_set]; exact hx2⟩
      · exact ⟨_, rfl, hx1, hx2⟩
    rw [eq, Res.bind_ok, eqM_ok, gtM_ok, andM_ok]
    by_cases q1 : gx ps 0 = 1
    · rw [decide_eq_true q1, if_pos rfl, bif_eq]
      by_cases q2 : (0 : Int) < (c : Int)
      · rw [if_pos (decide_eq_true q2), Res.bind_ok, mod_ok q2, pairM_ok, pairM_ok, Res.bind_ok]
        dsimp only
        have n0 : 0 ≤ gx ps 3 % (c : Int) := Int.emod_nonneg _ (by omega)
        have n1 : gx ps 3 % (c : Int) < (c : Int) := Int.emod_lt_of_pos _ q2
        generalize gx ps 3 % (c : Int) = m at n0 n1
        obtain ⟨m, rfl⟩ := Int.eq_ofNat_of_zero_le n0
        rw [law_with_ok (by omega) (by omega), Res.bind_ok]
        exact ⟨_, rfl, mark_set hq1 (by omega), by rw [List.length_set]; exact hq2⟩
      · rw [if_neg (by simpa using q2)]
        exact ⟨_, rfl, hq1, hq2⟩
    · rw [decide_eq_false q1, if_neg (by simp), bif_eq, if_neg (by simp)]
      exact ⟨_, rfl, hq1, hq2⟩
  by_cases q : gx ps 0 = 0
  · rw [decide_eq_true q, if_pos rfl, bif_eq, if_pos rfl]
    exact drawn
  · rw [decide_eq_false q, if_neg (by simp), bif_eq]
    by_cases q2 : (ones.length : Int) = 0
    · rw [if_pos (decide_eq_true q2)]
      exact drawn
    · rw [if_neg (by simpa using q2)]
      exact take (by omega)
/-! ### what is refused -/
theorem ref_ok {which : Int} {products : List (List Int)} {n k : Int} {s s1 : Sd}
    (h : (Res.ite (eqM (.ok which) (.ok (0 : Int)))
  (bindK ((callX (pairX (pureX fun _ => (idxM (.ok products) (.ok (0 : Int)))) (pureX fun _ => (.ok n))) fun s a => x_lies_within s (a.1) (a.2)) s) exX fun (_ : Bool) (p_diagrams : Sd) => (.ok (Xr.ok (), p_diagrams)))
  (Res.ite (eqM (.ok which) (.ok (1 : Int)))
  (bindK ((callX (pairX (pureX fun _ => (idxM (.ok products) (.ok (0 : Int)))) (pureX fun _ => (.ok n))) fun s a => x_is_prime s (a.1) (a.2)) s) exX fun (_ : Bool) (p_diagrams : Sd) => (.ok (Xr.ok (), p_diagrams)))
  (Res.ite (eqM (.ok which) (.ok (2 : Int)))
  (bindK ((callX (pairX (pureX fun _ => (idxM (.ok products) (.ok (0 : Int)))) (pairX (pureX fun _ => (.ok k)) (pureX fun _ => (.ok n)))) fun s a => x_beyond_case s (a.1) (a.2.1) (a.2.2)) s) exX fun (_ : (Option Int)) (p_diagrams : Sd) => (.ok (Xr.ok (), p_diagrams)))
  (bindK ((callX (pairX (pureX fun _ => (.ok products)) (pairX (pureX fun _ => (.ok k)) (pureX fun _ => (.ok n)))) fun s a => x_own_case s (a.1) (a.2.1) (a.2.2)) s) exX fun (_ : (Option Int)) (p_diagrams : Sd) => (.ok (Xr.ok (), p_diagrams)))))) = .ok (.exc 0 [], s1)) : x_law_refused which s products n k = .ok (.ok true, s1) := by
  unfold x_law_refused
  rw [h]
  rfl
theorem lies_no {f : Int} (hf : ¬ Va s.2 f) (p : List Int) : x_lies_within s p f = .ok (.exc 0 [], s) := by
  unfold x_lies_within
  simp only [callX, pureX_k, bindK_ok, node_no hf]
  rfl
theorem prime_no {f : Int} (hf : ¬ Va s.2 f) (p : List Int) : x_is_prime s p f = .ok (.exc 0 [], s) := by
  unfold x_is_prime
  simp only [callX, pairX, mapX, pureX_k, bindK_ok, lies_no hf]
  rfl
theorem beyond_no {f k : Int} (hf : ¬ Va s.2 f) (p : List Int) : x_beyond_case s p k f = .ok (.exc 0 [], s) := by
  unfold x_beyond_case
  simp only [callX, pureX_k, bindK_ok, node_no hf]
  rfl
theorem own_no {f k : Int} (hf : ¬ Va s.2 f) (ps : List (List Int)) : x_own_case s ps k f = .ok (.exc 0 [], s) := by
  unfold x_own_case
  simp only [callX, pureX_k, bindK_ok, node_no hf]
  rfl
theorem beyond_place (Z : St c B s) (hc : c ≤ 5) (hB : B + 64 ≤ 900000) {f k : Int} (hf : Va s.2 f) (hk : ¬ (0 ≤ k ∧ k < p.length)) : ∃ s', x_beyond_case s p k f = .ok (.exc 0 [], s') ∧ Lv c (B + 64) s s' := by
  obtain ⟨s1, e1, L1⟩ := node5 Z hc hB hf
  refine ⟨s1, ?_, L1⟩
  unfold x_beyond_case
  have e2 : (pureX fun _ => (Res.bind (pairM (lenM (.ok p)) (.ok k)) fun a => m_check_place (a.1) (a.2))) s1 = .ok (.exc 0 [], s1) := pureX_exc (by
    rw [lenM_ok, pairM_ok, Res.bind_ok]
    exact place_no hk)
  simp only [callX, pureX_k, bindK_ok, e1, e2]
  rfl
theorem own_place (Z : St c B s) (hc : c ≤ 5) (hB : B + 64 ≤ 900000) {f k : Int} (hf : Va s.2 f) {ps : List (List Int)} (hk : ¬ (0 ≤ k ∧ k < ps.length)) : ∃ s', x_own_case s ps k f = .ok (.exc 0 [], s') ∧ Lv c (B + 64) s s' := by
  obtain ⟨s1, e1, L1⟩ := node5 Z hc hB hf
  refine ⟨s1, ?_, L1⟩
  unfold x_own_case
  have e2 : (pureX fun _ => (Res.bind (pairM (lenM (.ok ps)) (.ok k)) fun a => m_check_place (a.1) (a.2))) s1 = .ok (.exc 0 [], s1) := pureX_exc (by
    rw [lenM_ok, pairM_ok, Res.bind_ok]
    exact place_no hk)
  simp only [callX, pureX_k, bindK_ok, e1, e2]
  rfl
theorem pick3 {a b d : Int} {i : Int} (h0 : 0 ≤ i) (h : i < 3) : ∃ n, idxM (.ok [a, b, d]) (.ok i) = .ok n ∧ (n = a ∨ n = b ∨ n = d) := by
  refine ⟨_, idxM_gx h0 h, ?_⟩
  have : i = 0 ∨ i = 1 ∨ i = 2 := by omega
  rcases this with rfl | rfl | rfl
  · exact .inl rfl
  · exact .inr (.inl rfl)
  · exact .inr (.inr rfl)
theorem pick2 {a b : Int} {i : Int} (h0 : 0 ≤ i) (h : i < 2) : ∃ n, idxM (.ok [a, b]) (.ok i) = .ok n ∧ (n = a ∨ n = b) := by
  refine ⟨_, idxM_gx h0 h, ?_⟩
  have : i = 0 ∨ i = 1 := by omega
  rcases this with rfl | rfl
  · exact .inl rfl
  · exact .inr rfl
theorem refuses_ok (hc : c ≤ 5) {products : List (List Int)} (h5 : products.length = 5) (hp : ∀ p ∈ products, p.length = c) {parts : List Int} (h3 : parts.length = 3) (a0 : 0 ≤ gx parts 0 ∧ gx parts 0 < 20) (a1 : 0 ≤ gx parts 1 ∧ gx parts 1 < 3) (a2 : 0 ≤ gx parts 2 ∧ gx parts 2 < 2) : m_law_refuses products (c : Int) parts = .ok true := by
  have hb := lim_big
  have Z0 := st_new c
  have em : Res.bind (.ok (c : Int)) (fun a => m_D_init a) = .ok ((c : Int), d0) := rfl
  have esz : (Res.bind (.ok (roD ((c : Int), d0))) fun s => m_D_size s) = .ok 2 := rfl
  have hfirst : (gx products 0).length = c := hp _ (gx_mem (by omega) (by omega))
  have e0 : idxM (.ok products) (.ok (0 : Int)) = .ok (gx products 0) := idxM_gx (by omega) (by omega)
  unfold m_law_refuses
  have r4 : rng1M (.ok (4 : Int)) = .ok (rgL 0 4) := rng1_ok (n := 4) (by omega)
  rw [r4, Res.bind_ok]
  obtain ⟨u, eu, _⟩ := forB_rng (f := m_law_refuses_b9 products (c : Int) parts) (fun k (x : Unit) => True) (n := 4) (s := ()) trivial fun k x hk _ => by
    unfold m_law_refuses_b9
    rw [em, Res.bind_ok, esz, idxM_gx (xs := parts) (i := 0) (by omega) (by omega), idxM_gx (xs := parts) (i := 1) (by omega) (by omega), addM_ok, show subM (negM (.ok (1 : Int))) (.ok (gx parts 0)) = .ok (-1 - gx parts 0) from rfl]
    simp only [consM_ok]
    obtain ⟨n, en, hn⟩ := pick3 (a := 2) (b := 2 + gx parts 0) (d := -1 - gx parts 0) a1.1 a1.2
    have hnv : ¬ Va (d0 : Dg) n := fun hv => by
      have h1 := hv.1
      have h2 : n < 2 := hv.2
      omega
    have en' : idxM (.ok [(2 : Int), 2 + gx parts 0, -1 - gx parts 0]) (.ok (gx parts 1)) = .ok n := en
    rw [en', Res.bind_ok]
    have href : x_law_refused (k : Int) ((c : Int), d0) products n 0 = .ok (.ok true, ((c : Int), d0)) := by
      refine ref_ok ?_
      rw [e0]
      have : k = 0 ∨ k = 1 ∨ k = 2 ∨ k = 3 := by omega
      rcases this with rfl | rfl | rfl | rfl
      · rw [eqM_ok, bif_eq, if_pos (by rfl)]
        simp only [callX, pairX, pureX_k, bindK_ok, lies_no (s := ((c : Int), d0)) hnv]
        rfl
      · rw [eqM_ok, bif_eq, if_neg (by decide), eqM_ok, bif_eq, if_pos (by rfl)]
        simp only [callX, pairX, pureX_k, bindK_ok, prime_no (s := ((c : Int), d0)) hnv]
        rfl
      · rw [eqM_ok, bif_eq, if_neg (by decide), eqM_ok, bif_eq, if_neg (by decide), eqM_ok, bif_eq, if_pos (by rfl)]
        simp only [callX, pairX, pureX_k, bindK_ok, beyond_no (s := ((c : Int), d0)) hnv]
        rfl
      · rw [eqM_ok, bif_eq, if_neg (by decide), eqM_ok, bif_eq, if_neg (by decide), eqM_ok, bif_eq, if_neg (by decide)]
        simp only [callX, pairX, pureX_k, bindK_ok, own_no (s := ((c : Int), d0)) hnv]
        rfl
    refine ⟨(), ?_, trivial⟩
    rw [gtM_ok, neM_ok, orM_ok]
    by_cases hc0 : (0 : Int) < (c : Int)
    · rw [decide_eq_true hc0]
      simp only [andX, callX, pairX, mapX, pureX_k, bindK_ok, href, if_true]
      rfl
    · rw [decide_eq_false hc0]
      simp only [Bool.false_eq_true, if_false, andX, callX, pairX, mapX, pureX_k, bindK_ok, href]
      by_cases hk2 : (k : Int) = 2
      · rw [decide_eq_true hk2]
        rfl
      · rw [decide_eq_false hk2]
        rfl
  rw [eu, Res.bind_ok]
  unfold Lp.el
  dsimp only
  rw [em, Res.bind_ok, idxM_gx (xs := parts) (i := 0) (by omega) (by omega), idxM_gx (xs := parts) (i := 2) (by omega) (by omega), addM_ok]
  have esub : subM (negM (.ok (1 : Int))) (.ok (gx parts 0)) = .ok (-1 - gx parts 0) := rfl
  rw [esub, lenM_ok, addM_ok, h5]
  simp only [consM_ok]
  obtain ⟨k1, ek1, hk1⟩ := pick2 (a := (c : Int) + gx parts 0) (b := -1 - gx parts 0) a2.1 a2.2
  obtain ⟨k2, ek2, hk2⟩ := pick2 (a := ((5 : Nat) : Int) + gx parts 0) (b := -1 - gx parts 0) a2.1 a2.2
  rw [ek1, ek2]
  obtain ⟨s1, e1, L1⟩ := beyond_place (p := gx products 0) (k := k1) Z0 hc (by omega) Z0.va1 (by omega)
  have f1 : x_law_refused 2 ((c : Int), d0) products 1 k1 = .ok (.ok true, s1) := by
    refine ref_ok ?_
    rw [e0, eqM_ok, bif_eq, if_neg (by decide), eqM_ok, bif_eq, if_neg (by decide), eqM_ok, bif_eq, if_pos (by rfl)]
    simp only [callX, pairX, pureX_k, bindK_ok, e1]
    rfl
  obtain ⟨s2, e2, L2⟩ := own_place (ps := products) (k := k2) L1.st hc (by omega) L1.st.va1 (by omega)
  have f2 : x_law_refused 3 s1 products 1 k2 = .ok (.ok true, s2) := by
    refine ref_ok ?_
    rw [eqM_ok, bif_eq, if_neg (by decide), eqM_ok, bif_eq, if_neg (by decide), eqM_ok, bif_eq, if_neg (by decide)]
    simp only [callX, pairX, pureX_k, bindK_ok, e2]
    rfl
  obtain ⟨s3, e3, L3⟩ := own_place (ps := []) (k := 0) L2.st hc (by omega) L2.st.va0 (by simp)
  have f3 : x_law_refused 3 s2 [] 0 0 = .ok (.ok true, s3) := by
    refine ref_ok ?_
    rw [eqM_ok, bif_eq, if_neg (by decide), eqM_ok, bif_eq, if_neg (by decide), eqM_ok, bif_eq, if_neg (by decide)]
    simp only [callX, pairX, pureX_k, bindK_ok, e3]
    rfl
  simp only [andX, callX, pairX, mapX, pureX_k, bindK_ok, f1, Res.bind_ok, f2, f3, if_true, Bool.not_true, Bool.false_eq_true, if_false]
end
end G84

namespace G84
open PySem L2 Mw Bd Dgo
theorem forB_states {α ρ : Type} {c : Nat} {f : α → Sd → Res (Tn Sd ρ)} (cost : Nat) (s0 : Sd) : ∀ (xs : List α) (B : Nat) (s : Sd), (∀ x ∈ xs, ∀ B s, St c B s → Ext s0.2 s.2 → B + cost ≤ 900000 → ∃ s', f x s = .ok (.nx s') ∧ Lv c (B + cost) s s') → St c B s → Ext s0.2 s.2 → B + xs.length * cost ≤ 900000 → ∃ s', forB f xs s = .ok (.nx s') ∧ Lv c (B + xs.length * cost) s s'
  | [], B, s, h, Z, e, hB => ⟨s, rfl, Z.le (by omega), Ext.refl _⟩
  | x :: xs, B, s, h, Z, e, hB => by
    rw [List.length_cons, Nat.succ_mul] at hB ⊢
    obtain ⟨s1, e1, L1⟩ := h x (by simp) B s Z e (by omega)
    obtain ⟨s2, e2, L2⟩ := forB_states cost s0 xs (B + cost) s1 (fun y hy => h y (by simp [hy])) L1.st (e.trans L1.ext) (by omega)
    refine ⟨s2, ?_, (L1.trans L2).le (by omega)⟩
    unfold forB
    rw [e1, Res.bind_ok]
    exact e2
theorem j14_ok {c B : Nat} {s : Sd} (Z : St c B s) (hc : c ≤ 5) (hB : B + 36000 ≤ 900000) {head t lo : List Int} (hh : head.length = 6) (a3 : 0 ≤ gx head 3 ∧ gx head 3 < 20) (a4 : 0 ≤ gx head 4 ∧ gx head 4 < 3) (a5 : 0 ≤ gx head 5 ∧ gx head 5 < 2)
    (T : Tru c t) (L : Tru c lo) {high low : Int} (I : Is c s high t) (J : Is c s low lo) {products cover : List (List Int)} (h5 : products.length = 5) (hp : ∀ p ∈ products, Marks p ∧ p.length = c) (hcv : ∀ p ∈ cover, Marks p ∧ p.length = c) (h6 : cover.length ≤ 6) :
    m_law_j14 head (c : Int) t lo s high low products cover = .ok true := by
  have hb := lim_big
  have p3 : 2 ^ c ≤ 2 ^ 5 := Nat.pow_le_pow_right (by decide) hc
  unfold m_law_j14
  dsimp only
  rw [Res.bind_ok, Res.bind_ok, lenM_ok, rng1_ok (by omega), Res.bind_ok]
  obtain ⟨s1, e1, L1⟩ := forB_states (c := c) (f := m_law_b24 (c : Int) lo low cover cover) 6000 s (rgL 0 cover.length) B s (fun x hx B' s' Z' e' hB' => by
    obtain ⟨h0, h1⟩ := mem_rgL.mp hx
    obtain ⟨k, rfl⟩ := Int.eq_ofNat_of_zero_le h0
    obtain ⟨s2, e2, L2⟩ := own5 Z' hc hB' L hcv h6 (J.ext Z Z' e') (k := k) (by omega)
    refine ⟨s2, ?_, L2⟩
    have eo : (Res.bind (pairM (.ok cover) (pairM (.ok (k : Int)) (pairM (.ok lo) (.ok (c : Int))))) fun a => m_law_own (a.1) (a.2.1) (a.2.2.1) (a.2.2.2)) = .ok (ownO c cover lo k) := by
      rw [pairM_ok, pairM_ok, pairM_ok, Res.bind_ok]
      exact own_ok L hcv h6 hc (by omega)
    unfold m_law_b24
    simp only [mapX, callX, pairX, pureX_k, bindK_ok, e2, eo, same_ok]
    rfl) Z (Ext.refl _) (by rw [rgL_length]; omega)
  rw [e1, Res.bind_ok]
  unfold Lp.el
  dsimp only
  rw [someM_ok, sliceM_ok, show (3 : Int) = ((3 : Nat) : Int) from rfl, cutL_from, pairM_ok, pairM_ok, Res.bind_ok]
  dsimp only
  have g : ∀ i : Nat, i < 3 → gx (head.drop 3) (i : Int) = gx head ((3 + i : Nat) : Int) := fun i hi => by
    rw [gx_nat (by rw [List.length_drop]; omega), gx_nat (by omega), List.getElem_drop]
  have g0 := g 0 (by omega)
  have g1 := g 1 (by omega)
  have g2 := g 2 (by omega)
  rw [refuses_ok hc h5 (fun p h => (hp p h).2) (by rw [List.length_drop]; omega) (by rw [show (0 : Int) = ((0 : Nat) : Int) from rfl, g0]; exact a3) (by rw [show (1 : Int) = ((1 : Nat) : Int) from rfl, g1]; exact a4) (by rw [show (2 : Int) = ((2 : Nat) : Int) from rfl, g2]; exact a5)]
  rw [neM_ok, decide_eq_true (rfl : cover = cover), notM_ok, orM_ok, if_neg (by simp), bif_eq, if_neg (by simp), shl1_ok (by omega), rng1_ok (by omega), Res.bind_ok]
  have I1 := I.ext Z L1.st L1.ext
  have J1 := J.ext Z L1.st L1.ext
  have e2 : forB (m_law_b23 (c : Int) t lo s1 high low) (rgL 0 (2 ^ c)) () = .ok (if ((rgL 0 (2 ^ c)).all fun _ => true) = true then .nx () else .rt false) := by
    refine forB_all _ fun k hk => ?_
    obtain ⟨h0, h1⟩ := mem_rgL.mp hk
    obtain ⟨n, rfl⟩ := Int.eq_ofNat_of_zero_le h0
    unfold m_law_b23
    rw [pairM_ok, Res.bind_ok]
    dsimp only
    rw [bits_eq _ (by omega), Res.bind_ok, Res.bind_ok, Res.bind_ok, Res.bind_ok, pairM_ok, pairM_ok, Res.bind_ok, Res.bind_ok]
    dsimp only
    rw [I1.value L1.st T (by omega), J1.value L1.st L (by omega), idxM_gx (xs := t) h0 (by rw [T.len]; omega), idxM_gx (xs := lo) h0 (by rw [L.len]; omega), neM_ok, neM_ok, decide_eq_true rfl, decide_eq_true rfl]
    rfl
  rw [e2, if_pos (by simp), Res.bind_ok]
theorem call2 {α β γ δ ρ : Type} (a : α) (b : β) (h : δ → α × β → Xs γ δ) (d : δ) (ex : Nat → List (Str × V) → δ → Res ρ) (k : γ → δ → Res ρ) : bindK (callX (pairX (pureX fun _ => Res.ok a) (pureX fun _ => Res.ok b)) h d) ex k = bindK (h d (a, b)) ex k := rfl
theorem mcall3 {α β γ ε δ ρ : Type} (a : α) (b : β) (c : γ) (h : δ → α × β × γ → Xs ε δ) (g : ε → Res ρ) (d d' : δ) (x : ε) {τ : Type} (ex : Nat → List (Str × V) → δ → Res τ) (k : ρ → δ → Res τ) (e : h d (a, b, c) = .ok (.ok x, d')) {y : ρ} (e2 : g x = .ok y) : bindK (mapX (callX (pairX (pureX fun _ => Res.ok a) (pairX (pureX fun _ => Res.ok b) (pureX fun _ => Res.ok c))) h) g d) ex k = k y d' := by
  show bindK (bindX (h d (a, b, c)) fun x d => pureX (fun _ => g x) d) ex k = _
  rw [e]
  show bindK (pureX (fun _ => g x) d') ex k = _
  rw [e2]
  rfl
theorem b26_ok {t p : List Int} {high : Int} {s s' : Sd} (e : x_law_right_product s p high t = .ok (.ok true, s')) : m_law_b26 t high p s = .ok (.nx s') := by
  unfold m_law_b26
  rw [mcall3 p high t (fun s a => x_law_right_product s (a.1) (a.2.1) (a.2.2)) (fun b => .ok (!b)) s s' true _ _ e rfl]
  rfl
theorem law_true (ns : List Int) (hl : ns.length ≤ 63) : m_law ns = .ok true := by
  have hb := lim_big
  unfold m_law
  obtain ⟨x, ex⟩ := far ns (by omega) (k := 0) ⟨by omega, by omega⟩
  rw [pairM_ok, Res.bind_ok]
  dsimp only
  rw [ex]
  simp only [consM_ok]
  obtain ⟨head, eh, hhl, hh⟩ := parts x (sizes := [10, 6, 4, 20, 3, 2]) (by simp) (fun z hz => by
    simp only [List.mem_cons, List.not_mem_nil, or_false] at hz
    rcases hz with rfl | rfl | rfl | rfl | rfl | rfl <;> omega)
  rw [pairM_ok, Res.bind_ok]
  dsimp only
  rw [eh, Res.bind_ok]
  simp only [List.length_cons, List.length_nil] at hhl hh
  have a0 : 0 ≤ gx head 0 ∧ gx head 0 < 10 := hh 0 ⟨by omega, by omega⟩
  have a1 : 0 ≤ gx head 1 ∧ gx head 1 < 6 := hh 1 ⟨by omega, by omega⟩
  have a3 : 0 ≤ gx head 3 ∧ gx head 3 < 20 := hh 3 ⟨by omega, by omega⟩
  have a4 : 0 ≤ gx head 4 ∧ gx head 4 < 3 := hh 4 ⟨by omega, by omega⟩
  have a5 : 0 ≤ gx head 5 ∧ gx head 5 < 2 := hh 5 ⟨by omega, by omega⟩
  rw [idxM_gx (xs := head) (i := 0) (by omega) (by omega), idxM_gx (xs := head) (i := 1) (by omega) (by omega), idxM_gx (xs := head) (i := 2) (by omega) (by omega)]
  have ecount : ∃ c : Nat, c ≤ 5 ∧ idxM (.ok [(0 : Int), 1, 2, 2, 3, 3, 3, 4, 4, 5]) (.ok (gx head 0)) = .ok (c : Int) := by
    generalize gx head 0 = q at a0
    have : q = 0 ∨ q = 1 ∨ q = 2 ∨ q = 3 ∨ q = 4 ∨ q = 5 ∨ q = 6 ∨ q = 7 ∨ q = 8 ∨ q = 9 := by omega
    rcases this with rfl | rfl | rfl | rfl | rfl | rfl | rfl | rfl | rfl | rfl
    · exact ⟨0, by omega, rfl⟩
    · exact ⟨1, by omega, rfl⟩
    · exact ⟨2, by omega, rfl⟩
    · exact ⟨2, by omega, rfl⟩
    · exact ⟨3, by omega, rfl⟩
    · exact ⟨3, by omega, rfl⟩
    · exact ⟨3, by omega, rfl⟩
    · exact ⟨4, by omega, rfl⟩
    · exact ⟨4, by omega, rfl⟩
    · exact ⟨5, by omega, rfl⟩
  obtain ⟨c, hc, ec⟩ := ecount
  rw [ec, Res.bind_ok, pairM_ok, pairM_ok, Res.bind_ok]
  dsimp only
  obtain ⟨t, et, T⟩ := truth_ok (script := ns) (by omega) (c := c) (by omega) (at_ := 1) ⟨by omega, by omega⟩
  obtain ⟨lo, el, L⟩ := truth_ok (script := ns) (by omega) (c := c) (by omega) (at_ := 2) ⟨by omega, by omega⟩
  rw [et, Res.bind_ok, pairM_ok, pairM_ok, Res.bind_ok]
  dsimp only
  rw [el, Res.bind_ok]
  have em : Res.bind (.ok (c : Int)) (fun a => m_D_init a) = .ok ((c : Int), d0) := rfl
  rw [em, Res.bind_ok]
  have hW : 2 ^ c * ((c + 1) * (2 ^ (c + 2) + 1)) ≤ 32 * (6 * 129) := by
    have p3 : 2 ^ c ≤ 2 ^ 5 := Nat.pow_le_pow_right (by decide) hc
    have p4 : 2 ^ (c + 2) ≤ 2 ^ 7 := Nat.pow_le_pow_right (by decide) (by omega)
    exact Nat.mul_le_mul (by omega) (Nat.mul_le_mul (by omega) (by omega))
  obtain ⟨high, s1, e1, Z1, x1, I1⟩ := (st_new c).xlaw_node (by omega) T (by omega)
  obtain ⟨low, s2, e2, Z2, x2, J2⟩ := Z1.xlaw_node (by omega) L (by omega)
  have I2 := I1.ext Z1 Z2 x2
  rw [call2]
  dsimp only
  rw [e1, bindK_ok, call2]
  dsimp only
  rw [e2, bindK_ok]
  have r5 : rng1M (.ok (5 : Int)) = .ok (rgL 0 5) := rng1_ok (n := 5) (by omega)
  have hprod : ∀ k : Int, 0 ≤ k ∧ k ≤ 900000 → ∃ p, m_law_product ns (3 + k) (c : Int) t = .ok p ∧ Marks p ∧ p.length = c := fun k hk => product_ok (by omega) hc T ⟨by omega, by omega⟩
  obtain ⟨g, hg⟩ : ∃ g : Int → List Int, ∀ k : Int, 0 ≤ k ∧ k ≤ 900000 → m_law_product ns (3 + k) (c : Int) t = .ok (g k) ∧ Marks (g k) ∧ (g k).length = c := by
    refine ⟨fun k => match m_law_product ns (3 + k) (c : Int) t with | .ok p => p | _ => [], fun k hk => ?_⟩
    obtain ⟨p, e, h1, h2⟩ := hprod k hk
    dsimp only
    rw [e]
    exact ⟨rfl, h1, h2⟩
  rw [r5, lcB_map g (by rw [rgL_length]; omega) (fun k hk => by
    obtain ⟨h0, h1⟩ := mem_rgL.mp hk
    rw [addM_ok, pairM_ok, pairM_ok, pairM_ok, Res.bind_ok]
    exact (hg k ⟨by omega, by omega⟩).1), Res.bind_ok, Res.bind_ok]
  have hp : ∀ p ∈ (rgL 0 5).map g, Marks p ∧ p.length = c := fun p h => by
    obtain ⟨k, hk, rfl⟩ := List.mem_map.mp h
    obtain ⟨h0, h1⟩ := mem_rgL.mp hk
    exact (hg k ⟨by omega, by omega⟩).2
  have h5 : ((rgL 0 5).map g).length = 5 := by rw [List.length_map, rgL_length]
  generalize (rgL 0 5).map g = products at hp h5
  obtain ⟨s3, e3, L3⟩ := forB_states (c := c) (f := m_law_b26 t high) 9600 s2 products _ s2 (fun p hpm B' s' Z' e' hB' => by
    obtain ⟨s4, e4, L4⟩ := right5 Z' hc hB' T (hp p hpm).1 (hp p hpm).2 (I2.ext Z2 Z' e')
    refine ⟨s4, ?_, L4⟩
    exact b26_ok e4) Z2 (Ext.refl _) (by omega)
  rw [e3, Res.bind_ok]
  unfold Lp.el
  dsimp only
  obtain ⟨n, hn⟩ := Int.eq_ofNat_of_zero_le a1.1
  rw [hn] at a1 ⊢
  rw [someM_ok, sliceM_ok, cutL_to, Res.bind_ok, eqM_ok, bif_eq]
  have hcv : ∀ p ∈ products.take n, Marks p ∧ p.length = c := fun p h => hp p (List.mem_of_mem_take h)
  have fin : ∀ cover : List (List Int), (∀ p ∈ cover, Marks p ∧ p.length = c) → cover.length ≤ 6 → m_law_j14 head (c : Int) t lo s3 high low products cover = .ok true := fun cover h1 h2 => j14_ok L3.st hc (by omega) hhl a3 a4 a5 T L (I2.ext Z2 L3.st L3.ext) (J2.ext Z2 L3.st L3.ext) h5 hp h1 h2
  split
  · rw [someM_ok, sliceM_ok, show (1 : Int) = ((1 : Nat) : Int) from rfl, cutL_to, catM_ok _ _ (by simp only [List.length_take]; omega), Res.bind_ok]
    exact fin _ (fun p h => by
      rcases List.mem_append.mp h with h | h
      · exact hcv p h
      · exact hcv p (List.mem_of_mem_take h)) (by simp only [List.length_append, List.length_take]; omega)
  · exact fin _ hcv (by simp only [List.length_take]; omega)
end G84

namespace G84
open PySem PySem.Spec PyProof.Rows L2 Mw Dgo
def spLaw (K : PySem.W.Frag) : Sp := fun vs H Q _ => ∃ (a : Addr) (ns : List Int), vs = [.ref a] ∧ SqL K H a (ns.map V.int) ∧ ns.length ≤ 63 ∧ ∀ H', Q (.bl true) H'
theorem paired_ints : ∀ {K : PySem.W.Frag} {G : Hp} (ns : List Int), RLs zI K G (ns.map V.int) ns
  | _, _, [] => .nil
  | _, _, _ :: ns => .cons rfl (paired_ints ns)
theorem spLaw_imp {K : PySem.W.Frag} {cl : Nat → Addr} (vs : List V) (H : Hp) (Q : VK) (E : XK) (h : spLaw K vs H Q E) : spP K cl (rs1 (rL zI)) rB (fun a => m_law a) vs H Q E := by
  obtain ⟨a, ns, rfl, hS, hl, k⟩ := h
  refine ⟨H, ns, Same.refl _, ⟨_, rfl, a, _, rfl, hS, paired_ints ns⟩, .mk ?_⟩
  show (m_law ns).wp _ _
  rw [law_true ns hl]
  exact fun v G' H' st r => by cases (show v = V.bl true from r); exact k H'
theorem all_mk {P : Program} {w : World} {K : PySem.W.Frag} {h : Heap} {mg : Str → Option Value} {fa : Addr} (X : K.In h) (G : h.Ns mainGlobals mg) (hfa : mg "law" = some (.ref fa))
    {CD : Addr}
    {f_check_bits f_D_init f_D_check f_D_found f_D_top f_D_side f_D_chosen f_D_size f_D_variable f_D_choose f_D_negate f_D_both f_D_either f_D_value f_D_first_case f_product_function f_cover_function f_without f_with_mark f_check_place f_check_node f_lies_within f_beyond_case f_is_prime f_own_case f_law_far f_law_parts f_law_is_integer f_law_bits f_law_takes f_law_truth f_law_node f_law_inside f_law_with f_law_product f_law_beyond f_law_own f_law_same f_law_right_product f_law_refused f_law_refuses f_law : Addr}
    {od_check_bits an_check_bits od_D_init an_D_init od_D_check an_D_check od_D_found an_D_found od_D_top an_D_top od_D_side an_D_side od_D_chosen an_D_chosen od_D_size an_D_size od_D_variable an_D_variable od_D_choose an_D_choose od_D_negate an_D_negate od_D_both an_D_both od_D_either an_D_either od_D_value an_D_value od_D_first_case an_D_first_case od_product_function an_product_function od_cover_function an_cover_function od_without an_without od_with_mark an_with_mark od_check_place an_check_place od_check_node an_check_node od_lies_within an_lies_within od_beyond_case an_beyond_case od_is_prime an_is_prime od_own_case an_own_case od_law_far an_law_far od_law_parts an_law_parts od_law_is_integer an_law_is_integer od_law_bits an_law_bits od_law_takes an_law_takes od_law_truth an_law_truth od_law_node an_law_node od_law_inside an_law_inside od_law_with an_law_with od_law_product an_law_product od_law_beyond an_law_beyond od_law_own an_law_own od_law_same an_law_same od_law_right_product an_law_right_product od_law_refused an_law_refused od_law_refuses an_law_refuses od_law an_law : Option Addr}
    {sl_check_bits sl_D_init sl_D_check sl_D_found sl_D_top sl_D_side sl_D_chosen sl_D_size sl_D_variable sl_D_choose sl_D_negate sl_D_both sl_D_either sl_D_value sl_D_first_case sl_product_function sl_cover_function sl_without sl_with_mark sl_check_place sl_check_node sl_lies_within sl_beyond_case sl_is_prime sl_own_case sl_law_far sl_law_parts sl_law_is_integer sl_law_bits sl_law_takes sl_law_truth sl_law_node sl_law_inside sl_law_with sl_law_product sl_law_beyond sl_law_own sl_law_same sl_law_right_product sl_law_refused sl_law_refuses sl_law : Array (Option Value)}
    {oc_check_bits kV_check_bits dc_check_bits pm_check_bits cd_check_bits ct_check_bits oc_D_init kV_D_init dc_D_init pm_D_init cd_D_init ct_D_init oc_D_check kV_D_check dc_D_check pm_D_check cd_D_check ct_D_check oc_D_found kV_D_found dc_D_found pm_D_found cd_D_found ct_D_found oc_D_top kV_D_top dc_D_top pm_D_top cd_D_top ct_D_top oc_D_side kV_D_side dc_D_side pm_D_side cd_D_side ct_D_side oc_D_chosen kV_D_chosen dc_D_chosen pm_D_chosen cd_D_chosen ct_D_chosen oc_D_size kV_D_size dc_D_size pm_D_size cd_D_size ct_D_size oc_D_variable kV_D_variable dc_D_variable pm_D_variable cd_D_variable ct_D_variable oc_D_choose kV_D_choose dc_D_choose pm_D_choose cd_D_choose ct_D_choose oc_D_negate kV_D_negate dc_D_negate pm_D_negate cd_D_negate ct_D_negate oc_D_both kV_D_both dc_D_both pm_D_both cd_D_both ct_D_both oc_D_either kV_D_either dc_D_either pm_D_either cd_D_either ct_D_either oc_D_value kV_D_value dc_D_value pm_D_value cd_D_value ct_D_value oc_D_first_case kV_D_first_case dc_D_first_case pm_D_first_case cd_D_first_case ct_D_first_case oc_product_function kV_product_function dc_product_function pm_product_function cd_product_function ct_product_function oc_cover_function kV_cover_function dc_cover_function pm_cover_function cd_cover_function ct_cover_function oc_without kV_without dc_without pm_without cd_without ct_without oc_with_mark kV_with_mark dc_with_mark pm_with_mark cd_with_mark ct_with_mark oc_check_place kV_check_place dc_check_place pm_check_place cd_check_place ct_check_place oc_check_node kV_check_node dc_check_node pm_check_node cd_check_node ct_check_node oc_lies_within kV_lies_within dc_lies_within pm_lies_within cd_lies_within ct_lies_within oc_beyond_case kV_beyond_case dc_beyond_case pm_beyond_case cd_beyond_case ct_beyond_case oc_is_prime kV_is_prime dc_is_prime pm_is_prime cd_is_prime ct_is_prime oc_own_case kV_own_case dc_own_case pm_own_case cd_own_case ct_own_case oc_law_far kV_law_far dc_law_far pm_law_far cd_law_far ct_law_far oc_law_parts kV_law_parts dc_law_parts pm_law_parts cd_law_parts ct_law_parts oc_law_is_integer kV_law_is_integer dc_law_is_integer pm_law_is_integer cd_law_is_integer ct_law_is_integer oc_law_bits kV_law_bits dc_law_bits pm_law_bits cd_law_bits ct_law_bits oc_law_takes kV_law_takes dc_law_takes pm_law_takes cd_law_takes ct_law_takes oc_law_truth kV_law_truth dc_law_truth pm_law_truth cd_law_truth ct_law_truth oc_law_node kV_law_node dc_law_node pm_law_node cd_law_node ct_law_node oc_law_inside kV_law_inside dc_law_inside pm_law_inside cd_law_inside ct_law_inside oc_law_with kV_law_with dc_law_with pm_law_with cd_law_with ct_law_with oc_law_product kV_law_product dc_law_product pm_law_product cd_law_product ct_law_product oc_law_beyond kV_law_beyond dc_law_beyond pm_law_beyond cd_law_beyond ct_law_beyond oc_law_own kV_law_own dc_law_own pm_law_own cd_law_own ct_law_own oc_law_same kV_law_same dc_law_same pm_law_same cd_law_same ct_law_same oc_law_right_product kV_law_right_product dc_law_right_product pm_law_right_product cd_law_right_product ct_law_right_product oc_law_refused kV_law_refused dc_law_refused pm_law_refused cd_law_refused ct_law_refused oc_law_refuses kV_law_refuses dc_law_refuses pm_law_refuses cd_law_refuses ct_law_refuses oc_law kV_law dc_law pm_law cd_law ct_law : Value}
    {t_FREE : _}
    {t_ONE : _}
    {t_ZERO : _}
    {C0 C1 C2 : Addr}
    (aCD : PySem.W.nsIn K mainGlobals "Diagrams" = some (some (.ref CD)))
    (pgCD : PySem.W.plainGet K CD Str.empty = true)
    (hdCD : PySem.W.hasDictIn K CD = true)
    (poCD : PySem.W.plainOver K CD = true)
    (saCD : PySem.W.findIn K (.ref CD) "__setattr__" = some (some (.builtin "object.__setattr__")))
    (mkCD : PySem.W.makesIn K CD = true)
    (kcCD : PySem.W.keepIn K (.ref CD) = true)
    (fCD_count : PySem.W.findIn K (.ref CD) "_count" = some none)
    (fCD_nodes : PySem.W.findIn K (.ref CD) "_nodes" = some none)
    (fCD_numbers : PySem.W.findIn K (.ref CD) "_numbers" = some none)
    (fCD_choices : PySem.W.findIn K (.ref CD) "_choices" = some none)
    (a_D_init : PySem.W.findIn K (.ref CD) "__init__" = some (some (.ref f_D_init)))
    (i_D_init : PySem.W.isFn K (.ref f_D_init) = true)
    (l_D_init : K.lookup f_D_init = some ⟨oc_D_init, od_D_init, .func (PySem.W.fnOf "__init__" "Diagrams.__init__" (defArgs sD_init) (defBody sD_init) (defScope sD_init) .none kV_D_init dc_D_init pm_D_init an_D_init cd_D_init ct_D_init), sl_D_init⟩)
    (c_D_init : PySem.W.codeIn K cd_D_init "Diagrams.__init__" = true)
    (k_D_init : PySem.W.keepIn K (.ref f_D_init) = true)
    (a_D_check : PySem.W.findIn K (.ref CD) "_check" = some (some (.ref f_D_check)))
    (i_D_check : PySem.W.isFn K (.ref f_D_check) = true)
    (l_D_check : K.lookup f_D_check = some ⟨oc_D_check, od_D_check, .func (PySem.W.fnOf "_check" "Diagrams._check" (defArgs s_D_check) (defBody s_D_check) (defScope s_D_check) .none kV_D_check dc_D_check pm_D_check an_D_check cd_D_check ct_D_check), sl_D_check⟩)
    (c_D_check : PySem.W.codeIn K cd_D_check "Diagrams._check" = true)
    (k_D_check : PySem.W.keepIn K (.ref f_D_check) = true)
    (a_D_found : PySem.W.findIn K (.ref CD) "_found" = some (some (.ref f_D_found)))
    (i_D_found : PySem.W.isFn K (.ref f_D_found) = true)
    (l_D_found : K.lookup f_D_found = some ⟨oc_D_found, od_D_found, .func (PySem.W.fnOf "_found" "Diagrams._found" (defArgs sD_found) (defBody sD_found) (defScope sD_found) .none kV_D_found dc_D_found pm_D_found an_D_found cd_D_found ct_D_found), sl_D_found⟩)
    (c_D_found : PySem.W.codeIn K cd_D_found "Diagrams._found" = true)
    (k_D_found : PySem.W.keepIn K (.ref f_D_found) = true)
    (a_D_top : PySem.W.findIn K (.ref CD) "_top" = some (some (.ref f_D_top)))
    (i_D_top : PySem.W.isFn K (.ref f_D_top) = true)
    (l_D_top : K.lookup f_D_top = some ⟨oc_D_top, od_D_top, .func (PySem.W.fnOf "_top" "Diagrams._top" (defArgs s_D_top) (defBody s_D_top) (defScope s_D_top) .none kV_D_top dc_D_top pm_D_top an_D_top cd_D_top ct_D_top), sl_D_top⟩)
    (c_D_top : PySem.W.codeIn K cd_D_top "Diagrams._top" = true)
    (k_D_top : PySem.W.keepIn K (.ref f_D_top) = true)
    (a_D_side : PySem.W.findIn K (.ref CD) "_side" = some (some (.ref f_D_side)))
    (i_D_side : PySem.W.isFn K (.ref f_D_side) = true)
    (l_D_side : K.lookup f_D_side = some ⟨oc_D_side, od_D_side, .func (PySem.W.fnOf "_side" "Diagrams._side" (defArgs s_D_side) (defBody s_D_side) (defScope s_D_side) .none kV_D_side dc_D_side pm_D_side an_D_side cd_D_side ct_D_side), sl_D_side⟩)
    (c_D_side : PySem.W.codeIn K cd_D_side "Diagrams._side" = true)
    (k_D_side : PySem.W.keepIn K (.ref f_D_side) = true)
    (a_D_chosen : PySem.W.findIn K (.ref CD) "_chosen" = some (some (.ref f_D_chosen)))
    (i_D_chosen : PySem.W.isFn K (.ref f_D_chosen) = true)
    (l_D_chosen : K.lookup f_D_chosen = some ⟨oc_D_chosen, od_D_chosen, .func (PySem.W.fnOf "_chosen" "Diagrams._chosen" (defArgs sD_chosen) (defBody sD_chosen) (defScope sD_chosen) .none kV_D_chosen dc_D_chosen pm_D_chosen an_D_chosen cd_D_chosen ct_D_chosen), sl_D_chosen⟩)
    (c_D_chosen : PySem.W.codeIn K cd_D_chosen "Diagrams._chosen" = true)
    (k_D_chosen : PySem.W.keepIn K (.ref f_D_chosen) = true)
    (a_D_size : PySem.W.findIn K (.ref CD) "size" = some (some (.ref f_D_size)))
    (i_D_size : PySem.W.isFn K (.ref f_D_size) = true)
    (l_D_size : K.lookup f_D_size = some ⟨oc_D_size, od_D_size, .func (PySem.W.fnOf "size" "Diagrams.size" (defArgs s_D_size) (defBody s_D_size) (defScope s_D_size) .none kV_D_size dc_D_size pm_D_size an_D_size cd_D_size ct_D_size), sl_D_size⟩)
    (c_D_size : PySem.W.codeIn K cd_D_size "Diagrams.size" = true)
    (k_D_size : PySem.W.keepIn K (.ref f_D_size) = true)
    (a_D_variable : PySem.W.findIn K (.ref CD) "variable" = some (some (.ref f_D_variable)))
    (i_D_variable : PySem.W.isFn K (.ref f_D_variable) = true)
    (l_D_variable : K.lookup f_D_variable = some ⟨oc_D_variable, od_D_variable, .func (PySem.W.fnOf "variable" "Diagrams.variable" (defArgs s_D_variable) (defBody s_D_variable) (defScope s_D_variable) .none kV_D_variable dc_D_variable pm_D_variable an_D_variable cd_D_variable ct_D_variable), sl_D_variable⟩)
    (c_D_variable : PySem.W.codeIn K cd_D_variable "Diagrams.variable" = true)
    (k_D_variable : PySem.W.keepIn K (.ref f_D_variable) = true)
    (a_D_choose : PySem.W.findIn K (.ref CD) "choose" = some (some (.ref f_D_choose)))
    (i_D_choose : PySem.W.isFn K (.ref f_D_choose) = true)
    (l_D_choose : K.lookup f_D_choose = some ⟨oc_D_choose, od_D_choose, .func (PySem.W.fnOf "choose" "Diagrams.choose" (defArgs s_D_choose) (defBody s_D_choose) (defScope s_D_choose) .none kV_D_choose dc_D_choose pm_D_choose an_D_choose cd_D_choose ct_D_choose), sl_D_choose⟩)
    (c_D_choose : PySem.W.codeIn K cd_D_choose "Diagrams.choose" = true)
    (k_D_choose : PySem.W.keepIn K (.ref f_D_choose) = true)
    (a_D_negate : PySem.W.findIn K (.ref CD) "negate" = some (some (.ref f_D_negate)))
    (i_D_negate : PySem.W.isFn K (.ref f_D_negate) = true)
    (l_D_negate : K.lookup f_D_negate = some ⟨oc_D_negate, od_D_negate, .func (PySem.W.fnOf "negate" "Diagrams.negate" (defArgs s_D_negate) (defBody s_D_negate) (defScope s_D_negate) .none kV_D_negate dc_D_negate pm_D_negate an_D_negate cd_D_negate ct_D_negate), sl_D_negate⟩)
    (c_D_negate : PySem.W.codeIn K cd_D_negate "Diagrams.negate" = true)
    (k_D_negate : PySem.W.keepIn K (.ref f_D_negate) = true)
    (a_D_both : PySem.W.findIn K (.ref CD) "both" = some (some (.ref f_D_both)))
    (i_D_both : PySem.W.isFn K (.ref f_D_both) = true)
    (l_D_both : K.lookup f_D_both = some ⟨oc_D_both, od_D_both, .func (PySem.W.fnOf "both" "Diagrams.both" (defArgs s_D_both) (defBody s_D_both) (defScope s_D_both) .none kV_D_both dc_D_both pm_D_both an_D_both cd_D_both ct_D_both), sl_D_both⟩)
    (c_D_both : PySem.W.codeIn K cd_D_both "Diagrams.both" = true)
    (k_D_both : PySem.W.keepIn K (.ref f_D_both) = true)
    (a_D_either : PySem.W.findIn K (.ref CD) "either" = some (some (.ref f_D_either)))
    (i_D_either : PySem.W.isFn K (.ref f_D_either) = true)
    (l_D_either : K.lookup f_D_either = some ⟨oc_D_either, od_D_either, .func (PySem.W.fnOf "either" "Diagrams.either" (defArgs s_D_either) (defBody s_D_either) (defScope s_D_either) .none kV_D_either dc_D_either pm_D_either an_D_either cd_D_either ct_D_either), sl_D_either⟩)
    (c_D_either : PySem.W.codeIn K cd_D_either "Diagrams.either" = true)
    (k_D_either : PySem.W.keepIn K (.ref f_D_either) = true)
    (a_D_value : PySem.W.findIn K (.ref CD) "value" = some (some (.ref f_D_value)))
    (i_D_value : PySem.W.isFn K (.ref f_D_value) = true)
    (l_D_value : K.lookup f_D_value = some ⟨oc_D_value, od_D_value, .func (PySem.W.fnOf "value" "Diagrams.value" (defArgs s_D_value) (defBody s_D_value) (defScope s_D_value) .none kV_D_value dc_D_value pm_D_value an_D_value cd_D_value ct_D_value), sl_D_value⟩)
    (c_D_value : PySem.W.codeIn K cd_D_value "Diagrams.value" = true)
    (k_D_value : PySem.W.keepIn K (.ref f_D_value) = true)
    (a_D_first_case : PySem.W.findIn K (.ref CD) "first_case" = some (some (.ref f_D_first_case)))
    (i_D_first_case : PySem.W.isFn K (.ref f_D_first_case) = true)
    (l_D_first_case : K.lookup f_D_first_case = some ⟨oc_D_first_case, od_D_first_case, .func (PySem.W.fnOf "first_case" "Diagrams.first_case" (defArgs s_D_first_case) (defBody s_D_first_case) (defScope s_D_first_case) .none kV_D_first_case dc_D_first_case pm_D_first_case an_D_first_case cd_D_first_case ct_D_first_case), sl_D_first_case⟩)
    (c_D_first_case : PySem.W.codeIn K cd_D_first_case "Diagrams.first_case" = true)
    (k_D_first_case : PySem.W.keepIn K (.ref f_D_first_case) = true)
    (a_check_bits : PySem.W.nsIn K mainGlobals "check_bits" = some (some (.ref f_check_bits)))
    (l_check_bits : K.lookup f_check_bits = some ⟨oc_check_bits, od_check_bits, .func (PySem.W.fnOf "check_bits" "check_bits" (defArgs s_check_bits) (defBody s_check_bits) (defScope s_check_bits) .none kV_check_bits dc_check_bits pm_check_bits an_check_bits cd_check_bits ct_check_bits), sl_check_bits⟩)
    (c_check_bits : PySem.W.codeIn K cd_check_bits "check_bits" = true)
    (k_check_bits : PySem.W.keepIn K (.ref f_check_bits) = true)
    (a_product_function : PySem.W.nsIn K mainGlobals "product_function" = some (some (.ref f_product_function)))
    (l_product_function : K.lookup f_product_function = some ⟨oc_product_function, od_product_function, .func (PySem.W.fnOf "product_function" "product_function" (defArgs s_product_function) (defBody s_product_function) (defScope s_product_function) .none kV_product_function dc_product_function pm_product_function an_product_function cd_product_function ct_product_function), sl_product_function⟩)
    (c_product_function : PySem.W.codeIn K cd_product_function "product_function" = true)
    (k_product_function : PySem.W.keepIn K (.ref f_product_function) = true)
    (a_cover_function : PySem.W.nsIn K mainGlobals "cover_function" = some (some (.ref f_cover_function)))
    (l_cover_function : K.lookup f_cover_function = some ⟨oc_cover_function, od_cover_function, .func (PySem.W.fnOf "cover_function" "cover_function" (defArgs s_cover_function) (defBody s_cover_function) (defScope s_cover_function) .none kV_cover_function dc_cover_function pm_cover_function an_cover_function cd_cover_function ct_cover_function), sl_cover_function⟩)
    (c_cover_function : PySem.W.codeIn K cd_cover_function "cover_function" = true)
    (k_cover_function : PySem.W.keepIn K (.ref f_cover_function) = true)
    (a_without : PySem.W.nsIn K mainGlobals "without" = some (some (.ref f_without)))
    (l_without : K.lookup f_without = some ⟨oc_without, od_without, .func (PySem.W.fnOf "without" "without" (defArgs s_without) (defBody s_without) (defScope s_without) .none kV_without dc_without pm_without an_without cd_without ct_without), sl_without⟩)
    (c_without : PySem.W.codeIn K cd_without "without" = true)
    (k_without : PySem.W.keepIn K (.ref f_without) = true)
    (a_with_mark : PySem.W.nsIn K mainGlobals "with_mark" = some (some (.ref f_with_mark)))
    (l_with_mark : K.lookup f_with_mark = some ⟨oc_with_mark, od_with_mark, .func (PySem.W.fnOf "with_mark" "with_mark" (defArgs s_with_mark) (defBody s_with_mark) (defScope s_with_mark) .none kV_with_mark dc_with_mark pm_with_mark an_with_mark cd_with_mark ct_with_mark), sl_with_mark⟩)
    (c_with_mark : PySem.W.codeIn K cd_with_mark "with_mark" = true)
    (k_with_mark : PySem.W.keepIn K (.ref f_with_mark) = true)
    (a_check_place : PySem.W.nsIn K mainGlobals "check_place" = some (some (.ref f_check_place)))
    (l_check_place : K.lookup f_check_place = some ⟨oc_check_place, od_check_place, .func (PySem.W.fnOf "check_place" "check_place" (defArgs s_check_place) (defBody s_check_place) (defScope s_check_place) .none kV_check_place dc_check_place pm_check_place an_check_place cd_check_place ct_check_place), sl_check_place⟩)
    (c_check_place : PySem.W.codeIn K cd_check_place "check_place" = true)
    (k_check_place : PySem.W.keepIn K (.ref f_check_place) = true)
    (a_check_node : PySem.W.nsIn K mainGlobals "check_node" = some (some (.ref f_check_node)))
    (l_check_node : K.lookup f_check_node = some ⟨oc_check_node, od_check_node, .func (PySem.W.fnOf "check_node" "check_node" (defArgs s_check_node) (defBody s_check_node) (defScope s_check_node) .none kV_check_node dc_check_node pm_check_node an_check_node cd_check_node ct_check_node), sl_check_node⟩)
    (c_check_node : PySem.W.codeIn K cd_check_node "check_node" = true)
    (k_check_node : PySem.W.keepIn K (.ref f_check_node) = true)
    (a_lies_within : PySem.W.nsIn K mainGlobals "lies_within" = some (some (.ref f_lies_within)))
    (l_lies_within : K.lookup f_lies_within = some ⟨oc_lies_within, od_lies_within, .func (PySem.W.fnOf "lies_within" "lies_within" (defArgs s_lies_within) (defBody s_lies_within) (defScope s_lies_within) .none kV_lies_within dc_lies_within pm_lies_within an_lies_within cd_lies_within ct_lies_within), sl_lies_within⟩)
    (c_lies_within : PySem.W.codeIn K cd_lies_within "lies_within" = true)
    (k_lies_within : PySem.W.keepIn K (.ref f_lies_within) = true)
    (a_beyond_case : PySem.W.nsIn K mainGlobals "beyond_case" = some (some (.ref f_beyond_case)))
    (l_beyond_case : K.lookup f_beyond_case = some ⟨oc_beyond_case, od_beyond_case, .func (PySem.W.fnOf "beyond_case" "beyond_case" (defArgs s_beyond_case) (defBody s_beyond_case) (defScope s_beyond_case) .none kV_beyond_case dc_beyond_case pm_beyond_case an_beyond_case cd_beyond_case ct_beyond_case), sl_beyond_case⟩)
    (c_beyond_case : PySem.W.codeIn K cd_beyond_case "beyond_case" = true)
    (k_beyond_case : PySem.W.keepIn K (.ref f_beyond_case) = true)
    (a_is_prime : PySem.W.nsIn K mainGlobals "is_prime" = some (some (.ref f_is_prime)))
    (l_is_prime : K.lookup f_is_prime = some ⟨oc_is_prime, od_is_prime, .func (PySem.W.fnOf "is_prime" "is_prime" (defArgs s_is_prime) (defBody s_is_prime) (defScope s_is_prime) .none kV_is_prime dc_is_prime pm_is_prime an_is_prime cd_is_prime ct_is_prime), sl_is_prime⟩)
    (c_is_prime : PySem.W.codeIn K cd_is_prime "is_prime" = true)
    (k_is_prime : PySem.W.keepIn K (.ref f_is_prime) = true)
    (a_own_case : PySem.W.nsIn K mainGlobals "own_case" = some (some (.ref f_own_case)))
    (l_own_case : K.lookup f_own_case = some ⟨oc_own_case, od_own_case, .func (PySem.W.fnOf "own_case" "own_case" (defArgs s_own_case) (defBody s_own_case) (defScope s_own_case) .none kV_own_case dc_own_case pm_own_case an_own_case cd_own_case ct_own_case), sl_own_case⟩)
    (c_own_case : PySem.W.codeIn K cd_own_case "own_case" = true)
    (k_own_case : PySem.W.keepIn K (.ref f_own_case) = true)
    (a_law_far : PySem.W.nsIn K mainGlobals "_law_far" = some (some (.ref f_law_far)))
    (l_law_far : K.lookup f_law_far = some ⟨oc_law_far, od_law_far, .func (PySem.W.fnOf "_law_far" "_law_far" (defArgs s_law_far) (defBody s_law_far) (defScope s_law_far) .none kV_law_far dc_law_far pm_law_far an_law_far cd_law_far ct_law_far), sl_law_far⟩)
    (c_law_far : PySem.W.codeIn K cd_law_far "_law_far" = true)
    (k_law_far : PySem.W.keepIn K (.ref f_law_far) = true)
    (a_law_parts : PySem.W.nsIn K mainGlobals "_law_parts" = some (some (.ref f_law_parts)))
    (l_law_parts : K.lookup f_law_parts = some ⟨oc_law_parts, od_law_parts, .func (PySem.W.fnOf "_law_parts" "_law_parts" (defArgs s_law_parts) (defBody s_law_parts) (defScope s_law_parts) .none kV_law_parts dc_law_parts pm_law_parts an_law_parts cd_law_parts ct_law_parts), sl_law_parts⟩)
    (c_law_parts : PySem.W.codeIn K cd_law_parts "_law_parts" = true)
    (k_law_parts : PySem.W.keepIn K (.ref f_law_parts) = true)
    (a_law_is_integer : PySem.W.nsIn K mainGlobals "_law_is_integer" = some (some (.ref f_law_is_integer)))
    (l_law_is_integer : K.lookup f_law_is_integer = some ⟨oc_law_is_integer, od_law_is_integer, .func (PySem.W.fnOf "_law_is_integer" "_law_is_integer" (defArgs s_law_is_integer) (defBody s_law_is_integer) (defScope s_law_is_integer) .none kV_law_is_integer dc_law_is_integer pm_law_is_integer an_law_is_integer cd_law_is_integer ct_law_is_integer), sl_law_is_integer⟩)
    (c_law_is_integer : PySem.W.codeIn K cd_law_is_integer "_law_is_integer" = true)
    (k_law_is_integer : PySem.W.keepIn K (.ref f_law_is_integer) = true)
    (a_law_bits : PySem.W.nsIn K mainGlobals "_law_bits" = some (some (.ref f_law_bits)))
    (l_law_bits : K.lookup f_law_bits = some ⟨oc_law_bits, od_law_bits, .func (PySem.W.fnOf "_law_bits" "_law_bits" (defArgs s_law_bits) (defBody s_law_bits) (defScope s_law_bits) .none kV_law_bits dc_law_bits pm_law_bits an_law_bits cd_law_bits ct_law_bits), sl_law_bits⟩)
    (c_law_bits : PySem.W.codeIn K cd_law_bits "_law_bits" = true)
    (k_law_bits : PySem.W.keepIn K (.ref f_law_bits) = true)
    (a_law_takes : PySem.W.nsIn K mainGlobals "_law_takes" = some (some (.ref f_law_takes)))
    (l_law_takes : K.lookup f_law_takes = some ⟨oc_law_takes, od_law_takes, .func (PySem.W.fnOf "_law_takes" "_law_takes" (defArgs s_law_takes) (defBody s_law_takes) (defScope s_law_takes) .none kV_law_takes dc_law_takes pm_law_takes an_law_takes cd_law_takes ct_law_takes), sl_law_takes⟩)
    (c_law_takes : PySem.W.codeIn K cd_law_takes "_law_takes" = true)
    (k_law_takes : PySem.W.keepIn K (.ref f_law_takes) = true)
    (a_law_truth : PySem.W.nsIn K mainGlobals "_law_truth" = some (some (.ref f_law_truth)))
    (l_law_truth : K.lookup f_law_truth = some ⟨oc_law_truth, od_law_truth, .func (PySem.W.fnOf "_law_truth" "_law_truth" (defArgs s_law_truth) (defBody s_law_truth) (defScope s_law_truth) .none kV_law_truth dc_law_truth pm_law_truth an_law_truth cd_law_truth ct_law_truth), sl_law_truth⟩)
    (c_law_truth : PySem.W.codeIn K cd_law_truth "_law_truth" = true)
    (k_law_truth : PySem.W.keepIn K (.ref f_law_truth) = true)
    (a_law_node : PySem.W.nsIn K mainGlobals "_law_node" = some (some (.ref f_law_node)))
    (l_law_node : K.lookup f_law_node = some ⟨oc_law_node, od_law_node, .func (PySem.W.fnOf "_law_node" "_law_node" (defArgs s_law_node) (defBody s_law_node) (defScope s_law_node) .none kV_law_node dc_law_node pm_law_node an_law_node cd_law_node ct_law_node), sl_law_node⟩)
    (c_law_node : PySem.W.codeIn K cd_law_node "_law_node" = true)
    (k_law_node : PySem.W.keepIn K (.ref f_law_node) = true)
    (a_law_inside : PySem.W.nsIn K mainGlobals "_law_inside" = some (some (.ref f_law_inside)))
    (l_law_inside : K.lookup f_law_inside = some ⟨oc_law_inside, od_law_inside, .func (PySem.W.fnOf "_law_inside" "_law_inside" (defArgs s_law_inside) (defBody s_law_inside) (defScope s_law_inside) .none kV_law_inside dc_law_inside pm_law_inside an_law_inside cd_law_inside ct_law_inside), sl_law_inside⟩)
    (c_law_inside : PySem.W.codeIn K cd_law_inside "_law_inside" = true)
    (k_law_inside : PySem.W.keepIn K (.ref f_law_inside) = true)
    (a_law_with : PySem.W.nsIn K mainGlobals "_law_with" = some (some (.ref f_law_with)))
    (l_law_with : K.lookup f_law_with = some ⟨oc_law_with, od_law_with, .func (PySem.W.fnOf "_law_with" "_law_with" (defArgs s_law_with) (defBody s_law_with) (defScope s_law_with) .none kV_law_with dc_law_with pm_law_with an_law_with cd_law_with ct_law_with), sl_law_with⟩)
    (c_law_with : PySem.W.codeIn K cd_law_with "_law_with" = true)
    (k_law_with : PySem.W.keepIn K (.ref f_law_with) = true)
    (a_law_product : PySem.W.nsIn K mainGlobals "_law_product" = some (some (.ref f_law_product)))
    (l_law_product : K.lookup f_law_product = some ⟨oc_law_product, od_law_product, .func (PySem.W.fnOf "_law_product" "_law_product" (defArgs s_law_product) (defBody s_law_product) (defScope s_law_product) .none kV_law_product dc_law_product pm_law_product an_law_product cd_law_product ct_law_product), sl_law_product⟩)
    (c_law_product : PySem.W.codeIn K cd_law_product "_law_product" = true)
    (k_law_product : PySem.W.keepIn K (.ref f_law_product) = true)
    (a_law_beyond : PySem.W.nsIn K mainGlobals "_law_beyond" = some (some (.ref f_law_beyond)))
    (l_law_beyond : K.lookup f_law_beyond = some ⟨oc_law_beyond, od_law_beyond, .func (PySem.W.fnOf "_law_beyond" "_law_beyond" (defArgs s_law_beyond) (defBody s_law_beyond) (defScope s_law_beyond) .none kV_law_beyond dc_law_beyond pm_law_beyond an_law_beyond cd_law_beyond ct_law_beyond), sl_law_beyond⟩)
    (c_law_beyond : PySem.W.codeIn K cd_law_beyond "_law_beyond" = true)
    (k_law_beyond : PySem.W.keepIn K (.ref f_law_beyond) = true)
    (a_law_own : PySem.W.nsIn K mainGlobals "_law_own" = some (some (.ref f_law_own)))
    (l_law_own : K.lookup f_law_own = some ⟨oc_law_own, od_law_own, .func (PySem.W.fnOf "_law_own" "_law_own" (defArgs s_law_own) (defBody s_law_own) (defScope s_law_own) .none kV_law_own dc_law_own pm_law_own an_law_own cd_law_own ct_law_own), sl_law_own⟩)
    (c_law_own : PySem.W.codeIn K cd_law_own "_law_own" = true)
    (k_law_own : PySem.W.keepIn K (.ref f_law_own) = true)
    (a_law_same : PySem.W.nsIn K mainGlobals "_law_same" = some (some (.ref f_law_same)))
    (l_law_same : K.lookup f_law_same = some ⟨oc_law_same, od_law_same, .func (PySem.W.fnOf "_law_same" "_law_same" (defArgs s_law_same) (defBody s_law_same) (defScope s_law_same) .none kV_law_same dc_law_same pm_law_same an_law_same cd_law_same ct_law_same), sl_law_same⟩)
    (c_law_same : PySem.W.codeIn K cd_law_same "_law_same" = true)
    (k_law_same : PySem.W.keepIn K (.ref f_law_same) = true)
    (a_law_right_product : PySem.W.nsIn K mainGlobals "_law_right_product" = some (some (.ref f_law_right_product)))
    (l_law_right_product : K.lookup f_law_right_product = some ⟨oc_law_right_product, od_law_right_product, .func (PySem.W.fnOf "_law_right_product" "_law_right_product" (defArgs s_law_right_product) (defBody s_law_right_product) (defScope s_law_right_product) .none kV_law_right_product dc_law_right_product pm_law_right_product an_law_right_product cd_law_right_product ct_law_right_product), sl_law_right_product⟩)
    (c_law_right_product : PySem.W.codeIn K cd_law_right_product "_law_right_product" = true)
    (k_law_right_product : PySem.W.keepIn K (.ref f_law_right_product) = true)
    (a_law_refused : PySem.W.nsIn K mainGlobals "_law_refused" = some (some (.ref f_law_refused)))
    (l_law_refused : K.lookup f_law_refused = some ⟨oc_law_refused, od_law_refused, .func (PySem.W.fnOf "_law_refused" "_law_refused" (defArgs s_law_refused) (defBody s_law_refused) (defScope s_law_refused) .none kV_law_refused dc_law_refused pm_law_refused an_law_refused cd_law_refused ct_law_refused), sl_law_refused⟩)
    (c_law_refused : PySem.W.codeIn K cd_law_refused "_law_refused" = true)
    (k_law_refused : PySem.W.keepIn K (.ref f_law_refused) = true)
    (a_law_refuses : PySem.W.nsIn K mainGlobals "_law_refuses" = some (some (.ref f_law_refuses)))
    (l_law_refuses : K.lookup f_law_refuses = some ⟨oc_law_refuses, od_law_refuses, .func (PySem.W.fnOf "_law_refuses" "_law_refuses" (defArgs s_law_refuses) (defBody s_law_refuses) (defScope s_law_refuses) .none kV_law_refuses dc_law_refuses pm_law_refuses an_law_refuses cd_law_refuses ct_law_refuses), sl_law_refuses⟩)
    (c_law_refuses : PySem.W.codeIn K cd_law_refuses "_law_refuses" = true)
    (k_law_refuses : PySem.W.keepIn K (.ref f_law_refuses) = true)
    (a_law : PySem.W.nsIn K mainGlobals "law" = some (some (.ref f_law)))
    (l_law : K.lookup f_law = some ⟨oc_law, od_law, .func (PySem.W.fnOf "law" "law" (defArgs s_law) (defBody s_law) (defScope s_law) .none kV_law dc_law pm_law an_law cd_law ct_law), sl_law⟩)
    (c_law : PySem.W.codeIn K cd_law "law" = true)
    (k_law : PySem.W.keepIn K (.ref f_law) = true)
    (n_all : PySem.W.nsIn K mainGlobals "all" = some none)
    (n_bool : PySem.W.nsIn K mainGlobals "bool" = some none)
    (n_enumerate : PySem.W.nsIn K mainGlobals "enumerate" = some none)
    (n_int : PySem.W.nsIn K mainGlobals "int" = some none)
    (n_isinstance : PySem.W.nsIn K mainGlobals "isinstance" = some none)
    (n_len : PySem.W.nsIn K mainGlobals "len" = some none)
    (n_list : PySem.W.nsIn K mainGlobals "list" = some none)
    (n_max : PySem.W.nsIn K mainGlobals "max" = some none)
    (n_range : PySem.W.nsIn K mainGlobals "range" = some none)
    (n_tuple : PySem.W.nsIn K mainGlobals "tuple" = some none)
    (z_FREE : PySem.W.nsIn K mainGlobals "FREE" = some (some (.int (2) t_FREE)))
    (z_ONE : PySem.W.nsIn K mainGlobals "ONE" = some (some (.int (1) t_ONE)))
    (z_ZERO : PySem.W.nsIn K mainGlobals "ZERO" = some (some (.int (0) t_ZERO)))
    (g_0 : PySem.W.nsIn K mainGlobals "NoSuchThing" = some (some (.ref C0)))
    (g_1 : PySem.W.nsIn K mainGlobals "InvalidValues" = some (some (.ref C1)))
    (g_2 : PySem.W.nsIn K mainGlobals "GatesError" = some (some (.ref C2)))
    (ec_0_0 : PySem.W.findIn K (.ref C0) "__getattribute__" = some (some (.builtin "BaseException.__getattribute__")))
    (ec_0_1 : PySem.W.findIn K (.ref C0) "__getattr__" = some none)
    (ec_0_2 : PySem.W.subIn K (.ref C0) (.type "BaseException") = some true)
    (ec_0_3 : PySem.W.hasDictIn K C0 = true)
    (ec_0_4 : PySem.W.findIn K (.ref C0) "__class__" = some (some (.builtin "object.__class__")))
    (ec_0_5 : PySem.W.specialIn K (.builtin "object.__class__") "__get__" = some (some (.builtin "getset_descriptor.__get__")))
    (ec_0_6 : PySem.W.takesIn K (.builtin "object.__class__") = some true)
    (ec_0_7 : PySem.W.mroIn K C0 (.type "object") = some true)
    (ex_0 : PySem.W.exmOne K (.ref C0) (.ref C2) = some true)
    (kit_0_0 : PySem.W.kitOne K (.ref C0) (.ref C0) = some true)
    (kit_0_1 : PySem.W.kitOne K (.ref C0) (.ref C1) = some false)
    (ec_1_0 : PySem.W.findIn K (.ref C1) "__getattribute__" = some (some (.builtin "BaseException.__getattribute__")))
    (ec_1_1 : PySem.W.findIn K (.ref C1) "__getattr__" = some none)
    (ec_1_2 : PySem.W.subIn K (.ref C1) (.type "BaseException") = some true)
    (ec_1_3 : PySem.W.hasDictIn K C1 = true)
    (ec_1_4 : PySem.W.findIn K (.ref C1) "__class__" = some (some (.builtin "object.__class__")))
    (ec_1_5 : PySem.W.specialIn K (.builtin "object.__class__") "__get__" = some (some (.builtin "getset_descriptor.__get__")))
    (ec_1_6 : PySem.W.takesIn K (.builtin "object.__class__") = some true)
    (ec_1_7 : PySem.W.mroIn K C1 (.type "object") = some true)
    (ex_1 : PySem.W.exmOne K (.ref C1) (.ref C2) = some true)
    (kit_1_0 : PySem.W.kitOne K (.ref C1) (.ref C0) = some false)
    (kit_1_1 : PySem.W.kitOne K (.ref C1) (.ref C1) = some true)
    (x_0 : PySem.W.excIn K C0 [.type "ValueError", .type "Exception", .type "BaseException", .type "object"] "ValueError.__new__" = true)
    (k_0 : PySem.W.keepIn K (.ref C0) = true)
    (b_0 : PySem.W.subIn K (.ref C0) (.type "BaseException") = some true)
    (t_0 : PySem.W.typeIn K (.ref C0) = some (.type "type"))
    (x_1 : PySem.W.excIn K C1 [.type "ValueError", .type "Exception", .type "BaseException", .type "object"] "ValueError.__new__" = true)
    (k_1 : PySem.W.keepIn K (.ref C1) = true)
    (b_1 : PySem.W.subIn K (.ref C1) (.type "BaseException") = some true)
    (t_1 : PySem.W.typeIn K (.ref C1) = some (.type "type"))
    : ∃ fd : FuncData, (∀ (s : Shared) (v : Value), BindsTo s fd ⟨[v], []⟩ [("script", v)]) ∧ ∀ base : Heap, K.In base → base.Ns mainGlobals mg → FnOk P w K mg base (L2.CX P w) 22 fa fd ["script"] (spLaw K) := by
  have e := hfa.symm.trans (PySem.W.mg_of X G a_law)
  cases e
  have T : Txt K mg (fun k => ([C0, C1, C2] : List Addr).getD k 0) := { n_all := PySem.W.mg_none_of X G n_all, n_bool := PySem.W.mg_none_of X G n_bool, n_enumerate := PySem.W.mg_none_of X G n_enumerate, n_int := PySem.W.mg_none_of X G n_int, n_isinstance := PySem.W.mg_none_of X G n_isinstance, n_len := PySem.W.mg_none_of X G n_len, n_list := PySem.W.mg_none_of X G n_list, n_max := PySem.W.mg_none_of X G n_max, n_range := PySem.W.mg_none_of X G n_range, n_tuple := PySem.W.mg_none_of X G n_tuple, c_FREE := ⟨t_FREE, PySem.W.mg_of X G z_FREE⟩, c_ONE := ⟨t_ONE, PySem.W.mg_of X G z_ONE⟩, c_ZERO := ⟨t_ZERO, PySem.W.mg_of X G z_ZERO⟩, g_0 := PySem.W.mg_of X G g_0, g_1 := PySem.W.mg_of X G g_1, g_2 := PySem.W.mg_of X G g_2, ec_0 := ⟨ec_0_0, ec_0_1, ec_0_2, ec_0_3, ec_0_4, ec_0_5, ec_0_6, ec_0_7⟩, ex_0 := ex_0, kit_0_0 := kit_0_0, kit_0_1 := kit_0_1, ec_1 := ⟨ec_1_0, ec_1_1, ec_1_2, ec_1_3, ec_1_4, ec_1_5, ec_1_6, ec_1_7⟩, ex_1 := ex_1, kit_1_0 := kit_1_0, kit_1_1 := kit_1_1, x_0 := x_0, k_0 := k_0, b_0 := b_0, t_0 := t_0, x_1 := x_1, k_1 := k_1, b_1 := b_1, t_1 := t_1 }
  have TD : DFacts K CD := ⟨⟨pgCD, hdCD, poCD, saCD⟩, fCD_count, fCD_nodes, fCD_numbers, fCD_choices⟩
  refine ⟨PySem.W.fnOf "law" "law" (defArgs s_law) (defBody s_law) (defScope s_law) .none kV_law dc_law pm_law an_law cd_law ct_law, fun s v => .of_eq rfl, fun base _ _ => ?_⟩
  have F_law_parts := fun_mk (st := s_law_parts) l_law_parts c_law_parts k_law_parts
  have O_law_parts := ok_law_parts (P := P) (w := w) (base := base) F_law_parts T 
  have C_law_parts : Cal P w K mg base "_law_parts" 1 ["cell", "sizes"] _ := ⟨_, _, O_law_parts, PySem.W.mg_of X G a_law_parts, k_law_parts, F_law_parts.binds (ps := ["cell", "sizes"]) fun _ _ _ _ _ _ us hl => match us, hl with | [_, _], _ => rfl⟩
  have F_law_far := fun_mk (st := s_law_far) l_law_far c_law_far k_law_far
  have O_law_far := ok_law_far (P := P) (w := w) (base := base) F_law_far T 
  have C_law_far : Cal P w K mg base "_law_far" 1 ["script", "k"] _ := ⟨_, _, O_law_far, PySem.W.mg_of X G a_law_far, k_law_far, F_law_far.binds (ps := ["script", "k"]) fun _ _ _ _ _ _ us hl => match us, hl with | [_, _], _ => rfl⟩
  have F_law_truth := fun_mk (st := s_law_truth) l_law_truth c_law_truth k_law_truth
  have O_law_truth := ok_law_truth (P := P) (w := w) (base := base) F_law_truth T C_law_parts C_law_far
  have C_law_truth : Cal P w K mg base "_law_truth" 2 ["script", "at", "count"] _ := ⟨_, _, O_law_truth, PySem.W.mg_of X G a_law_truth, k_law_truth, F_law_truth.binds (ps := ["script", "at", "count"]) fun _ _ _ _ _ _ us hl => match us, hl with | [_, _, _], _ => rfl⟩
  have F_D_init := fun_mk (st := sD_init) l_D_init c_D_init k_D_init
  have me_D_init : Meth K CD "__init__" f_D_init := ⟨a_D_init, i_D_init, k_D_init⟩
  have bd_D_init := F_D_init.binds (ps := ["self", "count"]) fun _ _ _ _ _ _ us hl => match us, hl with | [_, _], _ => rfl
  have C_D_init : ICal P w K mg base CD "Diagrams" 1 ["self", "count"] (spI K (fun k => ([C0, C1, C2] : List Addr).getD k 0) CD (ObD K CD) (rs1 zI) (fun a => m_D_init a)) := ⟨_, _, (okD_init (P := P) (w := w) (base := base) (cl := (fun k => ([C0, C1, C2] : List Addr).getD k 0)) F_D_init TD).imp spI_D, ⟨mkCD, a_D_init, i_D_init, kcCD⟩, PySem.W.mg_of X G aCD, bd_D_init⟩
  have F_law_bits := fun_mk (st := s_law_bits) l_law_bits c_law_bits k_law_bits
  have O_law_bits := ok_law_bits (P := P) (w := w) (base := base) F_law_bits T 
  have C_law_bits : Cal P w K mg base "_law_bits" 1 ["number", "count"] _ := ⟨_, _, O_law_bits, PySem.W.mg_of X G a_law_bits, k_law_bits, F_law_bits.binds (ps := ["number", "count"]) fun _ _ _ _ _ _ us hl => match us, hl with | [_, _], _ => rfl⟩
  have F_D_found := fun_mk (st := sD_found) l_D_found c_D_found k_D_found
  have me_D_found : Meth K CD "_found" f_D_found := ⟨a_D_found, i_D_found, k_D_found⟩
  have bd_D_found := F_D_found.binds (ps := ["self", "variable", "low", "high"]) fun _ _ _ _ _ _ us hl => match us, hl with | [_, _, _, _], _ => rfl
  have O_D_found := okD_found (P := P) (w := w) (base := base) (cl := (fun k => ([C0, C1, C2] : List Addr).getD k 0)) F_D_found TD T.n_len
  have C0_D_found : MCal P w K mg base CD "_found" 1 ["self", "variable", "low", "high"] _ := ⟨_, _, O_D_found, me_D_found, bd_D_found⟩
  have C_D_found : MCal P w K mg base CD "_found" 1 ["self", "variable", "low", "high"] _ := ⟨_, _, O_D_found.imp spX_ofM, me_D_found, bd_D_found⟩
  have F_D_variable := fun_mk (st := s_D_variable) l_D_variable c_D_variable k_D_variable
  have me_D_variable : Meth K CD "variable" f_D_variable := ⟨a_D_variable, i_D_variable, k_D_variable⟩
  have bd_D_variable := F_D_variable.binds (ps := ["self", "i"]) fun _ _ _ _ _ _ us hl => match us, hl with | [_, _], _ => rfl
  have O_D_variable := ok_D_variable (P := P) (w := w) (base := base) F_D_variable T TD C_D_found
  have C_D_variable : MCal P w K mg base CD "variable" 2 ["self", "i"] _ := ⟨_, _, O_D_variable, me_D_variable, bd_D_variable⟩
  have F_D_check := fun_mk (st := s_D_check) l_D_check c_D_check k_D_check
  have me_D_check : Meth K CD "_check" f_D_check := ⟨a_D_check, i_D_check, k_D_check⟩
  have bd_D_check := F_D_check.binds (ps := ["self", "numbers"]) fun _ _ _ _ _ _ us hl => match us, hl with | [_, _], _ => rfl
  have O_D_check := ok_D_check (P := P) (w := w) (base := base) F_D_check T TD 
  have C_D_check : MCal P w K mg base CD "_check" 1 ["self", "numbers"] _ := ⟨_, _, O_D_check, me_D_check, bd_D_check⟩
  have F_D_chosen := fun_mk (st := sD_chosen) l_D_chosen c_D_chosen k_D_chosen
  have me_D_chosen : Meth K CD "_chosen" f_D_chosen := ⟨a_D_chosen, i_D_chosen, k_D_chosen⟩
  have bd_D_chosen := F_D_chosen.binds (ps := ["self", "f", "g", "h"]) fun _ _ _ _ _ _ us hl => match us, hl with | [_, _, _, _], _ => rfl
  have F_D_top := fun_mk (st := s_D_top) l_D_top c_D_top k_D_top
  have me_D_top : Meth K CD "_top" f_D_top := ⟨a_D_top, i_D_top, k_D_top⟩
  have bd_D_top := F_D_top.binds (ps := ["self", "numbers"]) fun _ _ _ _ _ _ us hl => match us, hl with | [_, _], _ => rfl
  have O_D_top := ok_D_top (P := P) (w := w) (base := base) F_D_top T TD 
  have C_D_top : MCal P w K mg base CD "_top" 1 ["self", "numbers"] _ := ⟨_, _, O_D_top, me_D_top, bd_D_top⟩
  have F_D_side := fun_mk (st := s_D_side) l_D_side c_D_side k_D_side
  have me_D_side : Meth K CD "_side" f_D_side := ⟨a_D_side, i_D_side, k_D_side⟩
  have bd_D_side := F_D_side.binds (ps := ["self", "number", "variable", "bit"]) fun _ _ _ _ _ _ us hl => match us, hl with | [_, _, _, _], _ => rfl
  have O_D_side := ok_D_side (P := P) (w := w) (base := base) F_D_side T TD 
  have C_D_side : MCal P w K mg base CD "_side" 1 ["self", "number", "variable", "bit"] _ := ⟨_, _, O_D_side, me_D_side, bd_D_side⟩
  have O_D_chosen := okD_chosen (P := P) (w := w) (base := base) (cl := (fun k => ([C0, C1, C2] : List Addr).getD k 0)) F_D_chosen TD T.c_ZERO T.c_ONE T.n_range me_D_chosen bd_D_chosen C_D_top C_D_side C0_D_found dpt
  have C0_D_chosen : MCal P w K mg base CD "_chosen" 14 ["self", "f", "g", "h"] _ := ⟨_, _, O_D_chosen, me_D_chosen, bd_D_chosen⟩
  have C_D_chosen : MCal P w K mg base CD "_chosen" 14 ["self", "f", "g", "h"] _ := ⟨_, _, O_D_chosen.imp spX_ofM, me_D_chosen, bd_D_chosen⟩
  have F_D_choose := fun_mk (st := s_D_choose) l_D_choose c_D_choose k_D_choose
  have me_D_choose : Meth K CD "choose" f_D_choose := ⟨a_D_choose, i_D_choose, k_D_choose⟩
  have bd_D_choose := F_D_choose.binds (ps := ["self", "f", "g", "h"]) fun _ _ _ _ _ _ us hl => match us, hl with | [_, _, _, _], _ => rfl
  have O_D_choose := ok_D_choose (P := P) (w := w) (base := base) F_D_choose T TD C_D_check C_D_chosen
  have C_D_choose : MCal P w K mg base CD "choose" 15 ["self", "f", "g", "h"] _ := ⟨_, _, O_D_choose, me_D_choose, bd_D_choose⟩
  have F_D_both := fun_mk (st := s_D_both) l_D_both c_D_both k_D_both
  have me_D_both : Meth K CD "both" f_D_both := ⟨a_D_both, i_D_both, k_D_both⟩
  have bd_D_both := F_D_both.binds (ps := ["self", "f", "g"]) fun _ _ _ _ _ _ us hl => match us, hl with | [_, _, _], _ => rfl
  have O_D_both := ok_D_both (P := P) (w := w) (base := base) F_D_both T TD C_D_choose
  have C_D_both : MCal P w K mg base CD "both" 16 ["self", "f", "g"] _ := ⟨_, _, O_D_both, me_D_both, bd_D_both⟩
  have F_D_negate := fun_mk (st := s_D_negate) l_D_negate c_D_negate k_D_negate
  have me_D_negate : Meth K CD "negate" f_D_negate := ⟨a_D_negate, i_D_negate, k_D_negate⟩
  have bd_D_negate := F_D_negate.binds (ps := ["self", "f"]) fun _ _ _ _ _ _ us hl => match us, hl with | [_, _], _ => rfl
  have O_D_negate := ok_D_negate (P := P) (w := w) (base := base) F_D_negate T TD C_D_choose
  have C_D_negate : MCal P w K mg base CD "negate" 16 ["self", "f"] _ := ⟨_, _, O_D_negate, me_D_negate, bd_D_negate⟩
  have F_D_either := fun_mk (st := s_D_either) l_D_either c_D_either k_D_either
  have me_D_either : Meth K CD "either" f_D_either := ⟨a_D_either, i_D_either, k_D_either⟩
  have bd_D_either := F_D_either.binds (ps := ["self", "f", "g"]) fun _ _ _ _ _ _ us hl => match us, hl with | [_, _, _], _ => rfl
  have O_D_either := ok_D_either (P := P) (w := w) (base := base) F_D_either T TD C_D_choose
  have C_D_either : MCal P w K mg base CD "either" 16 ["self", "f", "g"] _ := ⟨_, _, O_D_either, me_D_either, bd_D_either⟩
  have F_law_node := fun_mk (st := s_law_node) l_law_node c_law_node k_law_node
  have O_law_node := ok_law_node (P := P) (w := w) (base := base) F_law_node T TD C_law_bits C_D_variable C_D_both C_D_negate C_D_either
  have C_law_node : Cal P w K mg base "_law_node" 17 ["diagrams", "count", "truth"] _ := ⟨_, _, O_law_node, PySem.W.mg_of X G a_law_node, k_law_node, F_law_node.binds (ps := ["diagrams", "count", "truth"]) fun _ _ _ _ _ _ us hl => match us, hl with | [_, _, _], _ => rfl⟩
  have F_law_with := fun_mk (st := s_law_with) l_law_with c_law_with k_law_with
  have O_law_with := ok_law_with (P := P) (w := w) (base := base) F_law_with T 
  have C_law_with : Cal P w K mg base "_law_with" 1 ["product", "place", "mark"] _ := ⟨_, _, O_law_with, PySem.W.mg_of X G a_law_with, k_law_with, F_law_with.binds (ps := ["product", "place", "mark"]) fun _ _ _ _ _ _ us hl => match us, hl with | [_, _, _], _ => rfl⟩
  have F_law_takes := fun_mk (st := s_law_takes) l_law_takes c_law_takes k_law_takes
  have O_law_takes := ok_law_takes (P := P) (w := w) (base := base) F_law_takes T 
  have C_law_takes : Cal P w K mg base "_law_takes" 1 ["product", "bits"] _ := ⟨_, _, O_law_takes, PySem.W.mg_of X G a_law_takes, k_law_takes, F_law_takes.binds (ps := ["product", "bits"]) fun _ _ _ _ _ _ us hl => match us, hl with | [_, _], _ => rfl⟩
  have F_law_inside := fun_mk (st := s_law_inside) l_law_inside c_law_inside k_law_inside
  have O_law_inside := ok_law_inside (P := P) (w := w) (base := base) F_law_inside T C_law_takes C_law_bits
  have C_law_inside : Cal P w K mg base "_law_inside" 2 ["product", "truth"] _ := ⟨_, _, O_law_inside, PySem.W.mg_of X G a_law_inside, k_law_inside, F_law_inside.binds (ps := ["product", "truth"]) fun _ _ _ _ _ _ us hl => match us, hl with | [_, _], _ => rfl⟩
  have F_law_product := fun_mk (st := s_law_product) l_law_product c_law_product k_law_product
  have O_law_product := ok_law_product (P := P) (w := w) (base := base) F_law_product T C_law_parts C_law_far C_law_bits C_law_with C_law_inside
  have C_law_product : Cal P w K mg base "_law_product" 3 ["script", "at", "count", "truth"] _ := ⟨_, _, O_law_product, PySem.W.mg_of X G a_law_product, k_law_product, F_law_product.binds (ps := ["script", "at", "count", "truth"]) fun _ _ _ _ _ _ us hl => match us, hl with | [_, _, _, _], _ => rfl⟩
  have F_check_node := fun_mk (st := s_check_node) l_check_node c_check_node k_check_node
  have O_check_node := ok_check_node (P := P) (w := w) (base := base) F_check_node T TD C_D_choose
  have C_check_node : Cal P w K mg base "check_node" 16 ["diagrams", "number"] _ := ⟨_, _, O_check_node, PySem.W.mg_of X G a_check_node, k_check_node, F_check_node.binds (ps := ["diagrams", "number"]) fun _ _ _ _ _ _ us hl => match us, hl with | [_, _], _ => rfl⟩
  have F_without := fun_mk (st := s_without) l_without c_without k_without
  have O_without := ok_without (P := P) (w := w) (base := base) F_without T TD C_D_choose
  have C_without : Cal P w K mg base "without" 16 ["diagrams", "f", "g"] _ := ⟨_, _, O_without, PySem.W.mg_of X G a_without, k_without, F_without.binds (ps := ["diagrams", "f", "g"]) fun _ _ _ _ _ _ us hl => match us, hl with | [_, _, _], _ => rfl⟩
  have F_product_function := fun_mk (st := s_product_function) l_product_function c_product_function k_product_function
  have O_product_function := ok_product_function (P := P) (w := w) (base := base) F_product_function T TD C_D_variable C_D_both C_D_negate
  have C_product_function : Cal P w K mg base "product_function" 17 ["diagrams", "product"] _ := ⟨_, _, O_product_function, PySem.W.mg_of X G a_product_function, k_product_function, F_product_function.binds (ps := ["diagrams", "product"]) fun _ _ _ _ _ _ us hl => match us, hl with | [_, _], _ => rfl⟩
  have F_lies_within := fun_mk (st := s_lies_within) l_lies_within c_lies_within k_lies_within
  have O_lies_within := ok_lies_within (P := P) (w := w) (base := base) F_lies_within T TD C_check_node C_without C_product_function
  have C_lies_within : Cal P w K mg base "lies_within" 18 ["diagrams", "product", "high"] _ := ⟨_, _, O_lies_within, PySem.W.mg_of X G a_lies_within, k_lies_within, F_lies_within.binds (ps := ["diagrams", "product", "high"]) fun _ _ _ _ _ _ us hl => match us, hl with | [_, _, _], _ => rfl⟩
  have F_law_beyond := fun_mk (st := s_law_beyond) l_law_beyond c_law_beyond k_law_beyond
  have O_law_beyond := ok_law_beyond (P := P) (w := w) (base := base) F_law_beyond T C_law_with C_law_takes C_law_bits
  have C_law_beyond : Cal P w K mg base "_law_beyond" 2 ["product", "place", "truth"] _ := ⟨_, _, O_law_beyond, PySem.W.mg_of X G a_law_beyond, k_law_beyond, F_law_beyond.binds (ps := ["product", "place", "truth"]) fun _ _ _ _ _ _ us hl => match us, hl with | [_, _, _], _ => rfl⟩
  have F_law_is_integer := fun_mk (st := s_law_is_integer) l_law_is_integer c_law_is_integer k_law_is_integer
  have O_law_is_integer := ok_law_is_integer (P := P) (w := w) (base := base) F_law_is_integer T 
  have C_law_is_integer : Cal P w K mg base "_law_is_integer" 1 ["actual"] _ := ⟨_, _, O_law_is_integer, PySem.W.mg_of X G a_law_is_integer, k_law_is_integer, F_law_is_integer.binds (ps := ["actual"]) fun _ _ _ _ _ _ us hl => match us, hl with | [_], _ => rfl⟩
  have F_law_same := fun_mk (st := s_law_same) l_law_same c_law_same k_law_same
  have O_law_same := ok_law_same (P := P) (w := w) (base := base) F_law_same T C_law_is_integer
  have C_law_same : Cal P w K mg base "_law_same" 2 ["actual", "expected"] _ := ⟨_, _, O_law_same, PySem.W.mg_of X G a_law_same, k_law_same, F_law_same.binds (ps := ["actual", "expected"]) fun _ _ _ _ _ _ us hl => match us, hl with | [_, _], _ => rfl⟩
  have F_check_place := fun_mk (st := s_check_place) l_check_place c_check_place k_check_place
  have O_check_place := ok_check_place (P := P) (w := w) (base := base) F_check_place T 
  have C_check_place : Cal P w K mg base "check_place" 1 ["items", "place"] _ := ⟨_, _, O_check_place, PySem.W.mg_of X G a_check_place, k_check_place, F_check_place.binds (ps := ["items", "place"]) fun _ _ _ _ _ _ us hl => match us, hl with | [_, _], _ => rfl⟩
  have F_with_mark := fun_mk (st := s_with_mark) l_with_mark c_with_mark k_with_mark
  have O_with_mark := ok_with_mark (P := P) (w := w) (base := base) F_with_mark T 
  have C_with_mark : Cal P w K mg base "with_mark" 1 ["product", "place", "mark"] _ := ⟨_, _, O_with_mark, PySem.W.mg_of X G a_with_mark, k_with_mark, F_with_mark.binds (ps := ["product", "place", "mark"]) fun _ _ _ _ _ _ us hl => match us, hl with | [_, _, _], _ => rfl⟩
  have F_D_first_case := fun_mk (st := s_D_first_case) l_D_first_case c_D_first_case k_D_first_case
  have me_D_first_case : Meth K CD "first_case" f_D_first_case := ⟨a_D_first_case, i_D_first_case, k_D_first_case⟩
  have bd_D_first_case := F_D_first_case.binds (ps := ["self", "f"]) fun _ _ _ _ _ _ us hl => match us, hl with | [_, _], _ => rfl
  have O_D_first_case := ok_D_first_case (P := P) (w := w) (base := base) F_D_first_case T TD C_D_check
  have C_D_first_case : MCal P w K mg base CD "first_case" 2 ["self", "f"] _ := ⟨_, _, O_D_first_case, me_D_first_case, bd_D_first_case⟩
  have F_beyond_case := fun_mk (st := s_beyond_case) l_beyond_case c_beyond_case k_beyond_case
  have O_beyond_case := ok_beyond_case (P := P) (w := w) (base := base) F_beyond_case T TD C_check_node C_check_place C_product_function C_with_mark C_D_first_case C_without
  have C_beyond_case : Cal P w K mg base "beyond_case" 18 ["diagrams", "product", "place", "high"] _ := ⟨_, _, O_beyond_case, PySem.W.mg_of X G a_beyond_case, k_beyond_case, F_beyond_case.binds (ps := ["diagrams", "product", "place", "high"]) fun _ _ _ _ _ _ us hl => match us, hl with | [_, _, _, _], _ => rfl⟩
  have F_is_prime := fun_mk (st := s_is_prime) l_is_prime c_is_prime k_is_prime
  have O_is_prime := ok_is_prime (P := P) (w := w) (base := base) F_is_prime T TD C_lies_within C_beyond_case
  have C_is_prime : Cal P w K mg base "is_prime" 19 ["diagrams", "product", "high"] _ := ⟨_, _, O_is_prime, PySem.W.mg_of X G a_is_prime, k_is_prime, F_is_prime.binds (ps := ["diagrams", "product", "high"]) fun _ _ _ _ _ _ us hl => match us, hl with | [_, _, _], _ => rfl⟩
  have F_law_right_product := fun_mk (st := s_law_right_product) l_law_right_product c_law_right_product k_law_right_product
  have O_law_right_product := ok_law_right_product (P := P) (w := w) (base := base) F_law_right_product T TD C_law_inside C_lies_within C_law_beyond C_law_same C_beyond_case C_is_prime
  have C_law_right_product : Cal P w K mg base "_law_right_product" 20 ["diagrams", "product", "high", "truth"] _ := ⟨_, _, O_law_right_product, PySem.W.mg_of X G a_law_right_product, k_law_right_product, F_law_right_product.binds (ps := ["diagrams", "product", "high", "truth"]) fun _ _ _ _ _ _ us hl => match us, hl with | [_, _, _, _], _ => rfl⟩
  have F_cover_function := fun_mk (st := s_cover_function) l_cover_function c_cover_function k_cover_function
  have O_cover_function := ok_cover_function (P := P) (w := w) (base := base) F_cover_function T TD C_D_either C_product_function
  have C_cover_function : Cal P w K mg base "cover_function" 18 ["diagrams", "cover"] _ := ⟨_, _, O_cover_function, PySem.W.mg_of X G a_cover_function, k_cover_function, F_cover_function.binds (ps := ["diagrams", "cover"]) fun _ _ _ _ _ _ us hl => match us, hl with | [_, _], _ => rfl⟩
  have F_own_case := fun_mk (st := s_own_case) l_own_case c_own_case k_own_case
  have O_own_case := ok_own_case (P := P) (w := w) (base := base) F_own_case T TD C_check_node C_check_place C_D_both C_product_function C_cover_function C_D_first_case C_without
  have C_own_case : Cal P w K mg base "own_case" 19 ["diagrams", "cover", "at", "low"] _ := ⟨_, _, O_own_case, PySem.W.mg_of X G a_own_case, k_own_case, F_own_case.binds (ps := ["diagrams", "cover", "at", "low"]) fun _ _ _ _ _ _ us hl => match us, hl with | [_, _, _, _], _ => rfl⟩
  have F_law_own := fun_mk (st := s_law_own) l_law_own c_law_own k_law_own
  have O_law_own := ok_law_own (P := P) (w := w) (base := base) F_law_own T C_law_bits C_law_takes
  have C_law_own : Cal P w K mg base "_law_own" 2 ["cover", "at", "truth", "count"] _ := ⟨_, _, O_law_own, PySem.W.mg_of X G a_law_own, k_law_own, F_law_own.binds (ps := ["cover", "at", "truth", "count"]) fun _ _ _ _ _ _ us hl => match us, hl with | [_, _, _, _], _ => rfl⟩
  have F_D_size := fun_mk (st := s_D_size) l_D_size c_D_size k_D_size
  have me_D_size : Meth K CD "size" f_D_size := ⟨a_D_size, i_D_size, k_D_size⟩
  have bd_D_size := F_D_size.binds (ps := ["self"]) fun _ _ _ _ _ _ us hl => match us, hl with | [_], _ => rfl
  have O_D_size := ok_D_size (P := P) (w := w) (base := base) F_D_size T TD 
  have C_D_size : MCal P w K mg base CD "size" 1 ["self"] _ := ⟨_, _, O_D_size, me_D_size, bd_D_size⟩
  have F_law_refused := fun_mk (st := s_law_refused) l_law_refused c_law_refused k_law_refused
  have O_law_refused := ok_law_refused (P := P) (w := w) (base := base) F_law_refused T TD C_lies_within C_is_prime C_beyond_case C_own_case
  have C_law_refused : Cal P w K mg base "_law_refused" 20 ["which", "diagrams", "products", "number", "place"] _ := ⟨_, _, O_law_refused, PySem.W.mg_of X G a_law_refused, k_law_refused, F_law_refused.binds (ps := ["which", "diagrams", "products", "number", "place"]) fun _ _ _ _ _ _ us hl => match us, hl with | [_, _, _, _, _], _ => rfl⟩
  have F_law_refuses := fun_mk (st := s_law_refuses) l_law_refuses c_law_refuses k_law_refuses
  have O_law_refuses := ok_law_refuses (P := P) (w := w) (base := base) F_law_refuses T TD C_D_init C_D_size C_law_refused
  have C_law_refuses : Cal P w K mg base "_law_refuses" 21 ["products", "count", "parts"] _ := ⟨_, _, O_law_refuses, PySem.W.mg_of X G a_law_refuses, k_law_refuses, F_law_refuses.binds (ps := ["products", "count", "parts"]) fun _ _ _ _ _ _ us hl => match us, hl with | [_, _, _], _ => rfl⟩
  have F_check_bits := fun_mk (st := s_check_bits) l_check_bits c_check_bits k_check_bits
  have O_check_bits := ok_check_bits (P := P) (w := w) (base := base) F_check_bits T 
  have C_check_bits : Cal P w K mg base "check_bits" 1 ["bits", "count"] _ := ⟨_, _, O_check_bits, PySem.W.mg_of X G a_check_bits, k_check_bits, F_check_bits.binds (ps := ["bits", "count"]) fun _ _ _ _ _ _ us hl => match us, hl with | [_, _], _ => rfl⟩
  have F_D_value := fun_mk (st := s_D_value) l_D_value c_D_value k_D_value
  have me_D_value : Meth K CD "value" f_D_value := ⟨a_D_value, i_D_value, k_D_value⟩
  have bd_D_value := F_D_value.binds (ps := ["self", "f", "bits"]) fun _ _ _ _ _ _ us hl => match us, hl with | [_, _, _], _ => rfl
  have O_D_value := ok_D_value (P := P) (w := w) (base := base) F_D_value T TD C_D_check C_check_bits
  have C_D_value : MCal P w K mg base CD "value" 2 ["self", "f", "bits"] _ := ⟨_, _, O_D_value, me_D_value, bd_D_value⟩
  have F_law := fun_mk (st := s_law) l_law c_law k_law
  have O_law := ok_law (P := P) (w := w) (base := base) F_law T TD C_law_parts C_law_far C_law_truth C_D_init C_law_node C_law_product C_law_right_product C_law_same C_own_case C_law_own C_law_refuses C_law_bits C_D_value
  exact O_law.imp spLaw_imp
theorem walk {l : PySem.W.OpenLaw} {q : Program} {loose : List Str} {XP : (Str → Option Value) → Heap → Prop} {YP : World → Heap → Prop} {d : DefRec} {K : Params → PySem.W.Frag} (hn : l.most = some 63) (hdf : d.params.defaults = [])
    (hY : ∀ (w : World) (h : Heap), YP w h → (K w.params).In h)
    (F : ∀ (w : World) (mg : Str → Option Value) (fa : Addr) (h : Heap), (K w.params).In h → h.Ns mainGlobals mg → mg d.name = some (.ref fa) →
      ∃ fd : FuncData, (∀ (s : Shared) (u : Value), BindsTo s fd ⟨[u], []⟩ [("script", u)]) ∧ ∀ base : Heap, (K w.params).In base → base.Ns mainGlobals mg → FnOk l.prog w (K w.params) mg base (L2.CX l.prog w) 22 fa fd ["script"] (spLaw (K w.params))) :
    PySem.W.WalkO q loose XP YP l.row.toRowW d [] (fun f vs => PySem.call f vs) :=
  L2.walk_of (n := 63) (k := 22) (x := "script") (CX := fun w => L2.CX l.prog w) (sp := fun w => spLaw (K w.params)) hn (by decide) hdf ⟨rfl, by decide, by decide⟩ hY F (fun _ _ a ns hl _ hS => ⟨a, ns, rfl, hS, hl, fun _ => rfl⟩) fun _ _ _ _ _ ⟨_, _, _, _, _, _, _, _, _, _, _, _, z⟩ => z
end G84
open PySem PySem.W PyProof.Rows in
set_option maxRecDepth 100000 in
set_option maxHeartbeats 0 in
theorem PySem.Challenge.cw_pinsalone_k84_primes_and_own_cases_holds : PySem.Challenge.rw_pinsalone_k84_primes_and_own_cases.Holds := by
  w_on; o_law; k_head; (case hw => w_witness2)
  k_fill
  refine G84.walk (l := PySem.Challenge.rw_pinsalone_k84_primes_and_own_cases) rfl rfl (fun w h Y => PySem.W.kIn_of Y) ?F
  case F =>
    intro w mg fa h KX G hmg
    refine' G84.all_mk KX G hmg ?aCD ?pgCD ?hdCD ?poCD ?saCD ?mkCD ?kcCD ?fCD_count ?fCD_nodes ?fCD_numbers ?fCD_choices ?a_D_init ?i_D_init ?l_D_init ?c_D_init ?k_D_init ?a_D_check ?i_D_check ?l_D_check ?c_D_check ?k_D_check ?a_D_found ?i_D_found ?l_D_found ?c_D_found ?k_D_found ?a_D_top ?i_D_top ?l_D_top ?c_D_top ?k_D_top ?a_D_side ?i_D_side ?l_D_side ?c_D_side ?k_D_side ?a_D_chosen ?i_D_chosen ?l_D_chosen ?c_D_chosen ?k_D_chosen ?a_D_size ?i_D_size ?l_D_size ?c_D_size ?k_D_size ?a_D_variable ?i_D_variable ?l_D_variable ?c_D_variable ?k_D_variable ?a_D_choose ?i_D_choose ?l_D_choose ?c_D_choose ?k_D_choose ?a_D_negate ?i_D_negate ?l_D_negate ?c_D_negate ?k_D_negate ?a_D_both ?i_D_both ?l_D_both ?c_D_both ?k_D_both ?a_D_either ?i_D_either ?l_D_either ?c_D_either ?k_D_either ?a_D_value ?i_D_value ?l_D_value ?c_D_value ?k_D_value ?a_D_first_case ?i_D_first_case ?l_D_first_case ?c_D_first_case ?k_D_first_case ?a_check_bits ?l_check_bits ?c_check_bits ?k_check_bits ?a_product_function ?l_product_function ?c_product_function ?k_product_function ?a_cover_function ?l_cover_function ?c_cover_function ?k_cover_function ?a_without ?l_without ?c_without ?k_without ?a_with_mark ?l_with_mark ?c_with_mark ?k_with_mark ?a_check_place ?l_check_place ?c_check_place ?k_check_place ?a_check_node ?l_check_node ?c_check_node ?k_check_node ?a_lies_within ?l_lies_within ?c_lies_within ?k_lies_within ?a_beyond_case ?l_beyond_case ?c_beyond_case ?k_beyond_case ?a_is_prime ?l_is_prime ?c_is_prime ?k_is_prime ?a_own_case ?l_own_case ?c_own_case ?k_own_case ?a_law_far ?l_law_far ?c_law_far ?k_law_far ?a_law_parts ?l_law_parts ?c_law_parts ?k_law_parts ?a_law_is_integer ?l_law_is_integer ?c_law_is_integer ?k_law_is_integer ?a_law_bits ?l_law_bits ?c_law_bits ?k_law_bits ?a_law_takes ?l_law_takes ?c_law_takes ?k_law_takes ?a_law_truth ?l_law_truth ?c_law_truth ?k_law_truth ?a_law_node ?l_law_node ?c_law_node ?k_law_node ?a_law_inside ?l_law_inside ?c_law_inside ?k_law_inside ?a_law_with ?l_law_with ?c_law_with ?k_law_with ?a_law_product ?l_law_product ?c_law_product ?k_law_product ?a_law_beyond ?l_law_beyond ?c_law_beyond ?k_law_beyond ?a_law_own ?l_law_own ?c_law_own ?k_law_own ?a_law_same ?l_law_same ?c_law_same ?k_law_same ?a_law_right_product ?l_law_right_product ?c_law_right_product ?k_law_right_product ?a_law_refused ?l_law_refused ?c_law_refused ?k_law_refused ?a_law_refuses ?l_law_refuses ?c_law_refuses ?k_law_refuses ?a_law ?l_law ?c_law ?k_law ?n_all ?n_bool ?n_enumerate ?n_int ?n_isinstance ?n_len ?n_list ?n_max ?n_range ?n_tuple ?z_FREE ?z_ONE ?z_ZERO ?g_0 ?g_1 ?g_2 ?ec_0_0 ?ec_0_1 ?ec_0_2 ?ec_0_3 ?ec_0_4 ?ec_0_5 ?ec_0_6 ?ec_0_7 ?ex_0 ?kit_0_0 ?kit_0_1 ?ec_1_0 ?ec_1_1 ?ec_1_2 ?ec_1_3 ?ec_1_4 ?ec_1_5 ?ec_1_6 ?ec_1_7 ?ex_1 ?kit_1_0 ?kit_1_1 ?x_0 ?k_0 ?b_0 ?t_0 ?x_1 ?k_1 ?b_1 ?t_1
    (case aCD => k_is)
    (case pgCD => k_is)
    (case hdCD => k_is)
    (case poCD => k_is)
    (case saCD => k_is)
    (case mkCD => k_is)
    (case kcCD => k_is)
    (case fCD_count => k_is)
    (case fCD_nodes => k_is)
    (case fCD_numbers => k_is)
    (case fCD_choices => k_is)
    (case a_D_init => k_is)
    (case i_D_init => k_is)
    (case l_D_init => k_is)
    (case c_D_init => k_is)
    (case k_D_init => k_is)
    (case a_D_check => k_is)
    (case i_D_check => k_is)
    (case l_D_check => k_is)
    (case c_D_check => k_is)
    (case k_D_check => k_is)
    (case a_D_found => k_is)
    (case i_D_found => k_is)
    (case l_D_found => k_is)
    (case c_D_found => k_is)
    (case k_D_found => k_is)
    (case a_D_top => k_is)
    (case i_D_top => k_is)
    (case l_D_top => k_is)
    (case c_D_top => k_is)
    (case k_D_top => k_is)
    (case a_D_side => k_is)
    (case i_D_side => k_is)
    (case l_D_side => k_is)
    (case c_D_side => k_is)
    (case k_D_side => k_is)
    (case a_D_chosen => k_is)
    (case i_D_chosen => k_is)
    (case l_D_chosen => k_is)
    (case c_D_chosen => k_is)
    (case k_D_chosen => k_is)
    (case a_D_size => k_is)
    (case i_D_size => k_is)
    (case l_D_size => k_is)
    (case c_D_size => k_is)
    (case k_D_size => k_is)
    (case a_D_variable => k_is)
    (case i_D_variable => k_is)
    (case l_D_variable => k_is)
    (case c_D_variable => k_is)
    (case k_D_variable => k_is)
    (case a_D_choose => k_is)
    (case i_D_choose => k_is)
    (case l_D_choose => k_is)
    (case c_D_choose => k_is)
    (case k_D_choose => k_is)
    (case a_D_negate => k_is)
    (case i_D_negate => k_is)
    (case l_D_negate => k_is)
    (case c_D_negate => k_is)
    (case k_D_negate => k_is)
    (case a_D_both => k_is)
    (case i_D_both => k_is)
    (case l_D_both => k_is)
    (case c_D_both => k_is)
    (case k_D_both => k_is)
    (case a_D_either => k_is)
    (case i_D_either => k_is)
    (case l_D_either => k_is)
    (case c_D_either => k_is)
    (case k_D_either => k_is)
    (case a_D_value => k_is)
    (case i_D_value => k_is)
    (case l_D_value => k_is)
    (case c_D_value => k_is)
    (case k_D_value => k_is)
    (case a_D_first_case => k_is)
    (case i_D_first_case => k_is)
    (case l_D_first_case => k_is)
    (case c_D_first_case => k_is)
    (case k_D_first_case => k_is)
    (case a_check_bits => k_is)
    (case l_check_bits => k_is)
    (case c_check_bits => k_is)
    (case k_check_bits => k_is)
    (case a_product_function => k_is)
    (case l_product_function => k_is)
    (case c_product_function => k_is)
    (case k_product_function => k_is)
    (case a_cover_function => k_is)
    (case l_cover_function => k_is)
    (case c_cover_function => k_is)
    (case k_cover_function => k_is)
    (case a_without => k_is)
    (case l_without => k_is)
    (case c_without => k_is)
    (case k_without => k_is)
    (case a_with_mark => k_is)
    (case l_with_mark => k_is)
    (case c_with_mark => k_is)
    (case k_with_mark => k_is)
    (case a_check_place => k_is)
    (case l_check_place => k_is)
    (case c_check_place => k_is)
    (case k_check_place => k_is)
    (case a_check_node => k_is)
    (case l_check_node => k_is)
    (case c_check_node => k_is)
    (case k_check_node => k_is)
    (case a_lies_within => k_is)
    (case l_lies_within => k_is)
    (case c_lies_within => k_is)
    (case k_lies_within => k_is)
    (case a_beyond_case => k_is)
    (case l_beyond_case => k_is)
    (case c_beyond_case => k_is)
    (case k_beyond_case => k_is)
    (case a_is_prime => k_is)
    (case l_is_prime => k_is)
    (case c_is_prime => k_is)
    (case k_is_prime => k_is)
    (case a_own_case => k_is)
    (case l_own_case => k_is)
    (case c_own_case => k_is)
    (case k_own_case => k_is)
    (case a_law_far => k_is)
    (case l_law_far => k_is)
    (case c_law_far => k_is)
    (case k_law_far => k_is)
    (case a_law_parts => k_is)
    (case l_law_parts => k_is)
    (case c_law_parts => k_is)
    (case k_law_parts => k_is)
    (case a_law_is_integer => k_is)
    (case l_law_is_integer => k_is)
    (case c_law_is_integer => k_is)
    (case k_law_is_integer => k_is)
    (case a_law_bits => k_is)
    (case l_law_bits => k_is)
    (case c_law_bits => k_is)
    (case k_law_bits => k_is)
    (case a_law_takes => k_is)
    (case l_law_takes => k_is)
    (case c_law_takes => k_is)
    (case k_law_takes => k_is)
    (case a_law_truth => k_is)
    (case l_law_truth => k_is)
    (case c_law_truth => k_is)
    (case k_law_truth => k_is)
    (case a_law_node => k_is)
    (case l_law_node => k_is)
    (case c_law_node => k_is)
    (case k_law_node => k_is)
    (case a_law_inside => k_is)
    (case l_law_inside => k_is)
    (case c_law_inside => k_is)
    (case k_law_inside => k_is)
    (case a_law_with => k_is)
    (case l_law_with => k_is)
    (case c_law_with => k_is)
    (case k_law_with => k_is)
    (case a_law_product => k_is)
    (case l_law_product => k_is)
    (case c_law_product => k_is)
    (case k_law_product => k_is)
    (case a_law_beyond => k_is)
    (case l_law_beyond => k_is)
    (case c_law_beyond => k_is)
    (case k_law_beyond => k_is)
    (case a_law_own => k_is)
    (case l_law_own => k_is)
    (case c_law_own => k_is)
    (case k_law_own => k_is)
    (case a_law_same => k_is)
    (case l_law_same => k_is)
    (case c_law_same => k_is)
    (case k_law_same => k_is)
    (case a_law_right_product => k_is)
    (case l_law_right_product => k_is)
    (case c_law_right_product => k_is)
    (case k_law_right_product => k_is)
    (case a_law_refused => k_is)
    (case l_law_refused => k_is)
    (case c_law_refused => k_is)
    (case k_law_refused => k_is)
    (case a_law_refuses => k_is)
    (case l_law_refuses => k_is)
    (case c_law_refuses => k_is)
    (case k_law_refuses => k_is)
    (case a_law => k_is)
    (case l_law => k_is)
    (case c_law => k_is)
    (case k_law => k_is)
    (case n_all => k_is)
    (case n_bool => k_is)
    (case n_enumerate => k_is)
    (case n_int => k_is)
    (case n_isinstance => k_is)
    (case n_len => k_is)
    (case n_list => k_is)
    (case n_max => k_is)
    (case n_range => k_is)
    (case n_tuple => k_is)
    (case z_FREE => k_is)
    (case z_ONE => k_is)
    (case z_ZERO => k_is)
    (case g_0 => k_is)
    (case g_1 => k_is)
    (case g_2 => k_is)
    (case ec_0_0 => k_is)
    (case ec_0_1 => k_is)
    (case ec_0_2 => k_is)
    (case ec_0_3 => k_is)
    (case ec_0_4 => k_is)
    (case ec_0_5 => k_is)
    (case ec_0_6 => k_is)
    (case ec_0_7 => k_is)
    (case ex_0 => kts_exm)
    (case kit_0_0 => kit_is)
    (case kit_0_1 => kit_is)
    (case ec_1_0 => k_is)
    (case ec_1_1 => k_is)
    (case ec_1_2 => k_is)
    (case ec_1_3 => k_is)
    (case ec_1_4 => k_is)
    (case ec_1_5 => k_is)
    (case ec_1_6 => k_is)
    (case ec_1_7 => k_is)
    (case ex_1 => kts_exm)
    (case kit_1_0 => kit_is)
    (case kit_1_1 => kit_is)
    (case x_0 => k_exc)
    (case k_0 => k_is)
    (case b_0 => k_is)
    (case t_0 => k_is)
    (case x_1 => k_exc)
    (case k_1 => k_is)
    (case b_1 => k_is)
    (case t_1 => k_is)

