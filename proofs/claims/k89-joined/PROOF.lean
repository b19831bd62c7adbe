import PyProof.Rows.All
import Wide.All
import OpenK.AllK
import Wide.FinOn
import HandS.ForMost
import HandS.Exc
import HandS.TryOnly
import HandS.ExcOwn
import HandS.WordsExc
import HandS.IsInst
import HandS.Sort
import HandS.ExcIs
import PySem.Challenge.RW_pinsalone_k89_joined_machines
import KE.GoesMore
import HandS.Iter
import KE.GoesEnum
import HandS.Style
import HandS.TupAny
import HandS.More
import HandS.Conv
import HandS.DictComp
import HandS.FStr
import HandS.Text
import HandS.Flt
set_option Elab.async false
set_option linter.all false
set_option maxRecDepth 100000
set_option maxHeartbeats 4000000
/-! Mirrors: results, representations, evaluation judgements -/
namespace Mw
open PySem L2

/-! ### results -/
inductive Res (α : Type) where
  | ok (a : α) | exc (c : Nat) (fs : List (Str × V)) | stuck
namespace Res
variable {α β γ : Type}
def bind : Res α → (α → Res β) → Res β
  | .ok a, f => f a
  | .exc c fs, _ => .exc c fs
  | .stuck, _ => .stuck
@[simp] theorem bind_ok (a : α) (f : α → Res β) : (Res.ok a).bind f = f a := rfl
@[simp] theorem bind_exc (c fs) (f : α → Res β) : (Res.exc c fs : Res α).bind f = .exc c fs := rfl
@[simp] theorem bind_stuck (f : α → Res β) : (Res.stuck : Res α).bind f = .stuck := rfl
def wp (m : Res α) (Q : α → Prop) (E : Nat → List (Str × V) → Prop) : Prop :=
  match m with
  | .ok a => Q a
  | .exc c fs => E c fs
  | .stuck => False
theorem wp_bind {m : Res α} {f : α → Res β} {Q E} (h : (m.bind f).wp Q E) : m.wp (fun a => (f a).wp Q E) E := by
  cases m <;> exact h
theorem wp_mono {m : Res α} {Q Q' : α → Prop} {E E' : Nat → List (Str × V) → Prop} (h : m.wp Q E) (hq : ∀ a, Q a → Q' a) (he : ∀ c fs, E c fs → E' c fs) : m.wp Q' E' := by
  cases m
  · exact hq _ h
  · exact he _ _ h
  · exact h
theorem wp_ok {a : α} {Q : α → Prop} {E} (h : Q a) : (Res.ok a).wp Q E := h
/-- the same, not opened by itself -/
@[irreducible] def _root_.Mw.Wp {α : Type} (m : Res α) (Q : α → Prop) (E : Nat → List (Str × V) → Prop) : Prop := m.wp Q E
theorem _root_.Mw.Wp.out {α : Type} {m : Res α} {Q : α → Prop} {E} (h : Mw.Wp m Q E) : m.wp Q E := by unfold Mw.Wp at h; exact h
theorem _root_.Mw.Wp.mk {α : Type} {m : Res α} {Q : α → Prop} {E} (h : m.wp Q E) : Mw.Wp m Q E := by unfold Mw.Wp; exact h
/-- no exception may leave -/
def nox : Res α → Res α
  | .exc _ _ => .stuck
  | m => m
@[simp] theorem nox_ok (a : α) : nox (.ok a) = .ok a := rfl
theorem wp_nox {m : Res α} {Q : α → Prop} {E E' : Nat → List (Str × V) → Prop} (h : m.nox.wp Q E) : m.wp Q E' := by
  cases m
  · exact h
  · exact h.elim
  · exact h
def ite (c : Res Bool) (a b : Res α) : Res α := c.bind fun k => if k = true then a else b
@[simp] theorem ite_true (a b : Res α) : ite (.ok true) a b = a := rfl
@[simp] theorem ite_false (a b : Res α) : ite (.ok false) a b = b := rfl
theorem ite_ok (k : Bool) (a b : Res α) : ite (.ok k) a b = if k = true then a else b := rfl
def bind2 (f : α → β → Res γ) (a : Res α) (b : Res β) : Res γ := a.bind fun x => b.bind fun y => f x y
@[simp] theorem bind2_ok (f : α → β → Res γ) (a : α) (b : β) : bind2 f (.ok a) (.ok b) = f a b := rfl
end Res

/-! ### representations -/
structure Rp (α : Type) where
  r : PySem.W.Frag → Hp → V → α → Prop
  mono : ∀ {K G G' v a}, Same G G' → r K G v a → r K G' v a

theorem same_rd {H H' : Hp} {a : Addr} {u : HO} (e : Same H H') (h : Rd H a u) : Rd H' a u := by
  rcases h with h | ⟨o, h⟩
  · exact Or.inl (e a _ h)
  · exact Or.inr ⟨o, e a _ h⟩
theorem same_l {K : PySem.W.Frag} {H H' : Hp} {a : Addr} {xs : List V} (e : Same H H') (h : SqL K H a xs) : SqL K H' a xs := by
  rcases h with h | h
  · exact Or.inl (same_rd e h)
  · exact Or.inr h
theorem same_t {K : PySem.W.Frag} {H H' : Hp} {a : Addr} {xs : List V} (e : Same H H') (h : SqT K H a xs) : SqT K H' a xs := by
  rcases h with h | h
  · exact Or.inl (same_rd e h)
  · exact Or.inr h
theorem same_new {H : Hp} {p : Addr} {o : HO} (h : H p = none) : Same H (upd H p o) := fun a u e => by
  rw [upd_ne (ne_of_none e h)]
  exact e
theorem same_upd {G H : Hp} {p : Addr} {o : HO} (e : Same G H) : Same (upd G p o) (upd H p o) := fun a u h => by
  by_cases q : a = p
  · subst q; rw [upd_same] at h ⊢; exact h
  · rw [upd_ne q] at h ⊢; exact e a u h
theorem same_updG {G H : Hp} {p : Addr} {o : HO} (e : Same G H) (hp : H p = some o) : Same (upd G p o) H := fun a u h => by
  by_cases q : a = p
  · subst q; rw [upd_same] at h; rw [hp]; exact h
  · rw [upd_ne q] at h; exact e a u h
/-- a cell that G doesn't know is written -/
theorem same_mut {G H : Hp} {p : Addr} {o : HO} (e : Same G H) (h : G p = none) : Same G (upd H p o) := fun a u ha => by
  rw [upd_ne (ne_of_none ha h)]
  exact e a u ha
theorem same_back {G H : Hp} {p : Addr} (e : Same G H) (h : H p = none) : G p = none := by
  cases h1 : G p with
  | none => rfl
  | some o => rw [e p o h1] at h; cases h

section
variable {α β γ : Type} {K : PySem.W.Frag} {G G' : Hp}
abbrev RLs (R : Rp α) (K : PySem.W.Frag) (G : Hp) : List V → List α → Prop := Paired (R.r K G)
theorem RLs.mono {R : Rp α} {vs : List V} {xs : List α} (e : Same G G') (h : RLs R K G vs xs) : RLs R K G' vs xs := Paired.mapP h fun _ _ q => R.mono e q
theorem paired_get {F : α → β → Prop} : ∀ {l₁ : List α} {l₂ : List β} {i : Nat} {a : α}, Paired F l₁ l₂ → l₁[i]? = some a → ∃ b, l₂[i]? = some b ∧ F a b
  | _, _, _, _, .nil, e => by simp at e
  | _, _, 0, _, .cons r _, e => by simp at e; subst e; exact ⟨_, rfl, r⟩
  | _, _, i + 1, _, .cons _ t, e => by
    obtain ⟨u, h1, h2⟩ := paired_get (i := i) t (by simpa using e)
    exact ⟨u, by simpa using h1, h2⟩
theorem paired_get' {F : α → β → Prop} : ∀ {l₁ : List α} {l₂ : List β} {i : Nat} {b : β}, Paired F l₁ l₂ → l₂[i]? = some b → ∃ a, l₁[i]? = some a ∧ F a b
  | _, _, _, _, .nil, e => by simp at e
  | _, _, 0, _, .cons r _, e => by simp at e; subst e; exact ⟨_, rfl, r⟩
  | _, _, i + 1, _, .cons _ t, e => by
    obtain ⟨u, h1, h2⟩ := paired_get' (i := i) t (by simpa using e)
    exact ⟨u, by simpa using h1, h2⟩
theorem paired_app {F : α → β → Prop} : ∀ {l₁ l₁' : List α} {l₂ l₂' : List β}, Paired F l₁ l₂ → Paired F l₁' l₂' → Paired F (l₁ ++ l₁') (l₂ ++ l₂')
  | _, _, _, _, .nil, s => s
  | _, _, _, _, .cons r t, s => .cons r (paired_app t s)
theorem paired_set {F : α → β → Prop} {x : α} {y : β} (r : F x y) : ∀ {xs : List α} {ys : List β} (i : Nat), Paired F xs ys → Paired F (xs.set i x) (ys.set i y)
  | _, _, _, .nil => .nil
  | _, _, 0, .cons _ t => .cons r t
  | _, _, i + 1, .cons q t => .cons q (paired_set r i t)
theorem paired_take {F : α → β → Prop} : ∀ {xs : List α} {us : List β} (n : Nat), Paired F xs us → Paired F (xs.take n) (us.take n)
  | _, _, 0, _ => .nil
  | _, _, _ + 1, .nil => .nil
  | _, _, n + 1, .cons r t => .cons r (paired_take n t)
theorem paired_drop {F : α → β → Prop} : ∀ {xs : List α} {us : List β} (n : Nat), Paired F xs us → Paired F (xs.drop n) (us.drop n)
  | _, _, 0, r => r
  | _, _, _ + 1, .nil => .nil
  | _, _, n + 1, .cons _ t => paired_drop n t
theorem paired_rev {F : α → β → Prop} {xs : List α} {us : List β} (h : Paired F xs us) : Paired F xs.reverse us.reverse := by
  induction h with
  | nil => exact .nil
  | cons r t ih => rw [List.reverse_cons, List.reverse_cons]; exact paired_app ih (.cons r .nil)
theorem paired_map {F : α → β → Prop} (f : β → α) (h : ∀ b, F (f b) b) : ∀ l : List β, Paired F (l.map f) l
  | [] => .nil
  | b :: l => .cons (h b) (paired_map f h l)
end

def zI : Rp Int := ⟨fun _ _ v a => v = .int a, fun _ h => h⟩
def rB : Rp Bool := ⟨fun _ _ v a => v = .bl a, fun _ h => h⟩
def rN : Rp Unit := ⟨fun _ _ v _ => v = .non, fun _ h => h⟩
def rS : Rp Str := ⟨fun _ _ v a => v = .str a, fun _ h => h⟩
def rO {α : Type} (R : Rp α) : Rp (Option α) := ⟨fun K G v o => match o with | none => v = .non | some a => v ≠ .non ∧ R.r K G v a, fun {K G G' v o} e h => by
  cases o with
  | none => exact h
  | some a => exact ⟨h.1, R.mono e h.2⟩⟩
def rL {α : Type} (R : Rp α) : Rp (List α) := ⟨fun K G v xs => ∃ p vs, v = .ref p ∧ SqL K G p vs ∧ RLs R K G vs xs, fun e ⟨p, vs, a, b, c⟩ => ⟨p, vs, a, same_l e b, c.mono e⟩⟩
/-- a tuple of any length -/
def rT {α : Type} (R : Rp α) : Rp (List α) := ⟨fun K G v xs => ∃ p vs, v = .ref p ∧ SqT K G p vs ∧ RLs R K G vs xs, fun e ⟨p, vs, a, b, c⟩ => ⟨p, vs, a, same_t e b, c.mono e⟩⟩
/-- lists of values that are told by a product -/
structure Rps (α : Type) where
  r : PySem.W.Frag → Hp → List V → α → Prop
  mono : ∀ {K G G' v a}, Same G G' → r K G v a → r K G' v a
def rs1 {α : Type} (R : Rp α) : Rps α := ⟨fun K G vs a => ∃ v, vs = [v] ∧ R.r K G v a, fun e ⟨v, h, q⟩ => ⟨v, h, R.mono e q⟩⟩
def rsC {α β : Type} (R : Rp α) (S : Rps β) : Rps (α × β) := ⟨fun K G vs a => ∃ v r, vs = v :: r ∧ R.r K G v a.1 ∧ S.r K G r a.2, fun e ⟨v, r, h, q, t⟩ => ⟨v, r, h, R.mono e q, S.mono e t⟩⟩
/-- a tuple of a fixed length -/
def rP {α : Type} (S : Rps α) : Rp α := ⟨fun K G v a => ∃ p vs, v = .ref p ∧ SqT K G p vs ∧ S.r K G vs a, fun e ⟨p, vs, a, b, c⟩ => ⟨p, vs, a, same_t e b, S.mono e c⟩⟩
abbrev rP2 {α β : Type} (R : Rp α) (S : Rp β) : Rp (α × β) := rP (rsC R (rs1 S))
abbrev rP3 {α β γ : Type} (R : Rp α) (S : Rp β) (T : Rp γ) : Rp (α × β × γ) := rP (rsC R (rsC S (rs1 T)))

/-- representations that don't look at the heap -/
def Sc {α : Type} (R : Rp α) : Prop := ∀ K G G' v a, R.r K G v a → R.r K G' v a
theorem sc_I : Sc zI := fun _ _ _ _ _ h => h
theorem sc_B : Sc rB := fun _ _ _ _ _ h => h
theorem sc_N : Sc rN := fun _ _ _ _ _ h => h
theorem sc_S : Sc rS := fun _ _ _ _ _ h => h
theorem sc_O {α : Type} {R : Rp α} (h : Sc R) : Sc (rO R) := fun K G G' v o q => by
  cases o with
  | none => exact q
  | some a => exact ⟨q.1, h K G G' v a q.2⟩

/-! ### states -/
abbrev Own := List (Addr × HO)
/-- an exception's own dict -/
def XdOk (fs : List (Str × V)) (d : Option Addr) (H : Hp) : Prop :=
  match fs with
  | [] => d = none
  | _ => ∃ a, d = some a ∧ H a = some (.xd fs)
structure Fm where
  F : Hp
  G0 : Hp
  E : XK
  cl : Nat → Addr
def Fm.xw (fm : Fm) (c : Nat) (fs : List (Str × V)) : Prop := ∀ H' d, Same fm.F H' → XdOk fs d H' → fm.E (.ref (fm.cl c)) d H'
/-- what is known -/
structure Kn (fm : Fm) (G : Hp) (O : Own) (H : Hp) : Prop where
  fr : Same fm.F H
  gh : Same G H
  own : ∀ p ∈ O, H p.1 = some p.2
/-- a pure step -/
structure Stp (G1 H1 G2 H2 : Hp) : Prop where
  hh : Same H1 H2
  gg : Same G1 G2
  gh : Same G2 H2
  old : ∀ b o, H1 b = some o → G2 b = G1 b
theorem Stp.refl {G H : Hp} (h : Same G H) : Stp G H G H := ⟨Same.refl _, Same.refl _, h, fun _ _ _ => rfl⟩
theorem Stp.trans {G1 H1 G2 H2 G3 H3 : Hp} (a : Stp G1 H1 G2 H2) (b : Stp G2 H2 G3 H3) : Stp G1 H1 G3 H3 :=
  ⟨a.hh.trans b.hh, a.gg.trans b.gg, b.gh, fun x o h => (b.old x o (a.hh x o h)).trans (a.old x o h)⟩
/-- the heap alone has grown -/
theorem Stp.grow {G H H' : Hp} (g : Same G H) (h : Same H H') : Stp G H G H' := ⟨h, Same.refl _, g.trans h, fun _ _ _ => rfl⟩
/-- a new object that stays as it is -/
theorem Stp.new {G H : Hp} {p : Addr} {o : HO} (g : Same G H) (h : H p = none) : Stp G H (upd G p o) (upd H p o) :=
  ⟨same_new h, same_new (same_back g h), same_upd g, fun b u e => upd_ne (ne_of_none e h)⟩
theorem Kn.stp {fm : Fm} {G1 H1 G2 H2 : Hp} {O : Own} (k : Kn fm G1 O H1) (s : Stp G1 H1 G2 H2) : Kn fm G2 O H2 :=
  ⟨k.fr.trans s.hh, s.gh, fun p hp => s.hh _ _ (k.own p hp)⟩

section
variable {α β γ δ : Type} {K : PySem.W.Frag} {fm : Fm} {σ : L2.St} {G G' H : Hp} {O : Own}
/-! ### what evaluates to what -/
def EvE (K : PySem.W.Frag) (fm : Fm) (te : TE) (σ : L2.St) (G : Hp) (O : Own) (R : Rp α) (m : Res α) : Prop :=
  ∀ G1 H1, Same G G1 → Kn fm G1 O H1 → ∀ Q : VK, m.wp (fun x => ∀ v G2 H2, Stp G1 H1 G2 H2 → R.r K G2 v x → Q v H2) fm.xw → te σ H1 Q
/-- a new list, not yet given away -/
def EvN (K : PySem.W.Frag) (fm : Fm) (te : TE) (σ : L2.St) (G : Hp) (O : Own) (R : Rp α) (m : Res (List α)) : Prop :=
  ∀ G1 H1, Same G G1 → Kn fm G1 O H1 → ∀ Q : VK, m.wp (fun xs => ∀ p vs G2 H2, Stp G1 H1 G2 H2 → H1 p = none → G2 p = none → H2 p = some (.lst vs) → RLs R K G2 vs xs → Q (.ref p) H2) fm.xw → te σ H1 Q
def EvT (fm : Fm) (tt : TT) (σ : L2.St) (G : Hp) (O : Own) (m : Res Bool) : Prop :=
  ∀ G1 H1, Same G G1 → Kn fm G1 O H1 → ∀ Q : Bool → Hp → Prop, m.wp (fun b => ∀ G2 H2, Stp G1 H1 G2 H2 → Q b H2) fm.xw → tt σ H1 Q
def EvA (K : PySem.W.Frag) (fm : Fm) (ta : TA) (σ : L2.St) (G : Hp) (O : Own) (R : Rps α) (m : Res α) : Prop :=
  ∀ G1 H1, Same G G1 → Kn fm G1 O H1 → ∀ Q : List V → Hp → Prop, m.wp (fun x => ∀ vs G2 H2, Stp G1 H1 G2 H2 → R.r K G2 vs x → Q vs H2) fm.xw → ta σ H1 Q

variable {te ta tb : TE} {R : Rp α} {S : Rp β} {T : Rp γ} {m : Res α} {n : Res β}
theorem EvE.mono (e : Same G G') (h : EvE K fm te σ G O R m) : EvE K fm te σ G' O R m := fun G1 H1 a => h G1 H1 (e.trans a)
theorem EvN.mono (e : Same G G') {m : Res (List α)} (h : EvN K fm te σ G O R m) : EvN K fm te σ G' O R m := fun G1 H1 a => h G1 H1 (e.trans a)
theorem EvT.mono {tt : TT} (e : Same G G') {m : Res Bool} (h : EvT fm tt σ G O m) : EvT fm tt σ G' O m := fun G1 H1 a => h G1 H1 (e.trans a)
theorem EvE.own {O' : Own} (h : EvE K fm te σ G O R m) (s : ∀ p ∈ O, p ∈ O') : EvE K fm te σ G O' R m := fun G1 H1 a k => h G1 H1 a ⟨k.fr, k.gh, fun p hp => k.own p (s p hp)⟩
theorem EvT.own {O' : Own} {tt : TT} {m : Res Bool} (h : EvT fm tt σ G O m) (s : ∀ p ∈ O, p ∈ O') : EvT fm tt σ G O' m := fun G1 H1 a k => h G1 H1 a ⟨k.fr, k.gh, fun p hp => k.own p (s p hp)⟩
/-- a new list given away -/
theorem EvN.ev {m : Res (List α)} (h : EvN K fm te σ G O R m) : EvE K fm te σ G O (rL R) m := fun G1 H1 a k Q q =>
  h G1 H1 a k Q (Res.wp_mono q (fun xs f p vs G2 H2 s hp gp hl r =>
    f (.ref p) (upd G2 p (.lst vs)) H2 ⟨s.hh, s.gg.trans (same_new gp), same_updG s.gh hl, fun b o e => by
        rw [upd_ne (ne_of_none e hp)]; exact s.old b o e⟩
      ⟨p, vs, rfl, .inl (.inl upd_same), r.mono (same_new gp)⟩) fun _ _ x => x)

/-! ### atoms -/
theorem e_var {i : Nat} {v : V} {x : α} (h : σ[i]? = some (some v)) (r : R.r K G v x) : EvE K fm (tVar i) σ G O R (.ok x) := fun G1 H1 a k Q q =>
  ⟨v, h, q v G1 H1 (Stp.refl k.gh) (R.mono a r)⟩
/-- a list of one's own, read as it stands -/
theorem e_c {v : V} {x : α} (r : ∀ G', R.r K G' v x) : EvE K fm (tC v) σ G O R (.ok x) := fun G1 H1 a k Q q => q v G1 H1 (Stp.refl k.gh) (r G1)
theorem e_int {i : Int} : EvE K fm (tC (.int i)) σ G O zI (.ok i) := e_c fun _ => rfl
theorem e_bl {b : Bool} : EvE K fm (tC (.bl b)) σ G O rB (.ok b) := e_c fun _ => rfl
theorem e_str {s : Str} : EvE K fm (tC (.str s)) σ G O rS (.ok s) := e_c fun _ => rfl
theorem e_non : EvE K fm (tC .non) σ G O rN (.ok ()) := e_c fun _ => rfl
theorem e_nonO : EvE K fm (tC .non) σ G O (rO R) (.ok none) := e_c fun _ => rfl
def someM {α : Type} (m : Res α) : Res (Option α) := m.bind fun x => .ok (some x)
@[simp] theorem someM_ok {α : Type} (x : α) : someM (.ok x) = .ok (some x) := rfl
/-- never None -/
def Nn (R : Rp α) : Prop := ∀ K G v x, R.r K G v x → v ≠ .non
theorem nn_I : Nn zI := fun _ _ v x h => by cases (show v = .int x from h); simp
theorem nn_B : Nn rB := fun _ _ v x h => by cases (show v = .bl x from h); simp
theorem nn_S : Nn rS := fun _ _ v x h => by cases (show v = .str x from h); simp
theorem nn_L : Nn (rL R) := fun _ _ v x ⟨p, vs, h, _⟩ => by cases h; simp
theorem nn_T : Nn (rT R) := fun _ _ v x ⟨p, vs, h, _⟩ => by cases h; simp
theorem nn_P {S : Rps α} : Nn (rP S) := fun _ _ v x ⟨p, vs, h, _⟩ => by cases h; simp
theorem e_some (n : Nn R) (h : EvE K fm te σ G O R m) : EvE K fm te σ G O (rO R) (someM m) := fun G1 H1 a k Q q =>
  h G1 H1 a k Q (Res.wp_mono (Res.wp_bind q) (fun x f v G2 H2 s r => f v G2 H2 s ⟨n _ _ _ _ r, r⟩) fun _ _ z => z)
/-- an Option that is known to be there -/
def getM {α : Type} : Option α → Res α
  | some a => .ok a
  | none => .stuck
@[simp] theorem getM_some {α : Type} (a : α) : getM (some a) = .ok a := rfl
theorem e_get {m : Res (Option α)} (h : EvE K fm te σ G O (rO R) m) : EvE K fm te σ G O R (m.bind getM) := fun G1 H1 a k Q q =>
  h G1 H1 a k Q (Res.wp_mono (Res.wp_bind q) (fun x f v G2 H2 s r => by
    cases x with
    | none => exact f.elim
    | some y => exact (show ∀ v G2 H2, Stp G1 H1 G2 H2 → R.r K G2 v y → Q v H2 from f) v G2 H2 s r.2) fun _ _ z => z)

/-! ### operators -/
theorem e_op {r : R2} {f : α → β → Res γ} (ha : EvE K fm ta σ G O R m) (hb : EvE K fm tb σ G O S n)
    (hr : ∀ G1 H1 x y u v, Kn fm G1 O H1 → R.r K G1 u x → S.r K G1 v y → ∀ Q : VK, (f x y).wp (fun z => ∀ w G2 H2, Stp G1 H1 G2 H2 → T.r K G2 w z → Q w H2) fm.xw → r u v H1 Q) :
    EvE K fm (tOp r ta tb) σ G O T (Res.bind2 f m n) := fun G1 H1 a k Q q =>
  ha G1 H1 a k _ (Res.wp_mono (Res.wp_bind q) (fun x q u G2 H2 s ru =>
    hb G2 H2 (a.trans s.gg) (k.stp s) _ (Res.wp_mono (Res.wp_bind q) (fun y q v G3 H3 s' rv =>
      hr G3 H3 x y u v ((k.stp s).stp s') (R.mono s'.gg ru) rv Q (Res.wp_mono q (fun z q w G4 H4 s'' rw => q w G4 H4 ((s.trans s').trans s'') rw) fun _ _ z => z)) fun _ _ z => z)) fun _ _ z => z)
theorem e_un {r : V → Hp → VK → Prop} {f : α → Res γ} (ha : EvE K fm ta σ G O R m)
    (hr : ∀ G1 H1 x u, Kn fm G1 O H1 → R.r K G1 u x → ∀ Q : VK, (f x).wp (fun z => ∀ w G2 H2, Stp G1 H1 G2 H2 → T.r K G2 w z → Q w H2) fm.xw → r u H1 Q) :
    EvE K fm (tUn r ta) σ G O T (m.bind f) := fun G1 H1 a k Q q =>
  ha G1 H1 a k _ (Res.wp_mono (Res.wp_bind q) (fun x q u G2 H2 s ru =>
    hr G2 H2 x u (k.stp s) ru Q (Res.wp_mono q (fun z q w G4 H4 s'' rw => q w G4 H4 (s.trans s'') rw) fun _ _ z => z)) fun _ _ z => z)

def addM : Res Int → Res Int → Res Int := Res.bind2 fun i j => .ok (i + j)
def subM : Res Int → Res Int → Res Int := Res.bind2 fun i j => .ok (i - j)
def inB (i : Int) : Bool := decide (-(2 ^ 64) < i) && decide (i < 2 ^ 64)
def mulF (i j : Int) : Res Int := if inB i || inB j then .ok (i * j) else .stuck
def mulM : Res Int → Res Int → Res Int := Res.bind2 mulF
def fdivF (i j : Int) : Res Int := if decide (0 < j) && decide (j < 1073741824) then .ok (i / j) else .stuck
def fdivM : Res Int → Res Int → Res Int := Res.bind2 fdivF
def modF (i j : Int) : Res Int := if decide (0 < j) then .ok (i % j) else .stuck
def modM : Res Int → Res Int → Res Int := Res.bind2 modF
def cpow (i j : Int) : Bool := decide (0 ≤ j) && decide (j ≤ 1000000) && decide (i.natAbs < 2 ^ 64)
def powF (i j : Int) : Res Int := if cpow i j then .ok (i ^ j.toNat) else .stuck
def powM : Res Int → Res Int → Res Int := Res.bind2 powF
def shlF (i j : Int) : Res Int := if cpow i j then .ok (i * 2 ^ j.toNat) else .stuck
def shlM : Res Int → Res Int → Res Int := Res.bind2 shlF
def shrF (i j : Int) : Res Int := if decide (0 ≤ j) then .ok (i / 2 ^ j.toNat) else .stuck
def shrM : Res Int → Res Int → Res Int := Res.bind2 shrF
def negM (a : Res Int) : Res Int := a.bind fun i => .ok (-i)
variable {a b : Res Int}
theorem e_add (ha : EvE K fm ta σ G O zI a) (hb : EvE K fm tb σ G O zI b) : EvE K fm (tOp (L2.rI0 fun i j => .int (i + j)) ta tb) σ G O zI (addM a b) :=
  e_op ha hb fun G1 H1 x y u v k ru rv Q q => ⟨x, y, ru, rv, q _ G1 H1 (Stp.refl k.gh) rfl⟩
theorem e_sub (ha : EvE K fm ta σ G O zI a) (hb : EvE K fm tb σ G O zI b) : EvE K fm (tOp (L2.rI0 fun i j => .int (i - j)) ta tb) σ G O zI (subM a b) :=
  e_op ha hb fun G1 H1 x y u v k ru rv Q q => ⟨x, y, ru, rv, q _ G1 H1 (Stp.refl k.gh) rfl⟩
theorem e_opI {C : Int → Int → Prop} {c : Int → Int → Bool} {g : Int → Int → Int} (hc : ∀ i j, c i j = true → C i j) (ha : EvE K fm ta σ G O zI a) (hb : EvE K fm tb σ G O zI b) :
    EvE K fm (tOp (L2.rI C fun i j => .int (g i j)) ta tb) σ G O zI (Res.bind2 (fun i j => if c i j = true then .ok (g i j) else .stuck) a b) :=
  e_op ha hb fun G1 H1 x y u v k ru rv Q q => by
    cases e : c x y with
    | true => simp only [e, if_true] at q; exact ⟨x, y, ru, rv, hc x y e, q _ G1 H1 (Stp.refl k.gh) rfl⟩
    | false => simp only [e] at q; exact q.elim
theorem e_mul (ha : EvE K fm ta σ G O zI a) (hb : EvE K fm tb σ G O zI b) : EvE K fm (tOp (L2.rI CMul fun i j => .int (i * j)) ta tb) σ G O zI (mulM a b) :=
  e_opI (c := fun i j => inB i || inB j) (fun i j h => by
    simp only [inB, Bool.or_eq_true, Bool.and_eq_true, decide_eq_true_eq] at h
    exact h) ha hb
theorem e_fdiv (ha : EvE K fm ta σ G O zI a) (hb : EvE K fm tb σ G O zI b) : EvE K fm (tOp (L2.rI CDiv fun i j => .int (i / j)) ta tb) σ G O zI (fdivM a b) :=
  e_opI (c := fun _ j => decide (0 < j) && decide (j < 1073741824)) (fun i j h => by
    simp only [Bool.and_eq_true, decide_eq_true_eq] at h
    exact h) ha hb
theorem e_mod (ha : EvE K fm ta σ G O zI a) (hb : EvE K fm tb σ G O zI b) : EvE K fm (tOp (L2.rI (fun _ j => 0 < j) fun i j => .int (i % j)) ta tb) σ G O zI (modM a b) :=
  e_opI (c := fun _ j => decide (0 < j)) (fun i j h => by simpa using h) ha hb
theorem cpow_ok {i j : Int} (h : cpow i j = true) : CPow i j := by
  simp only [cpow, Bool.and_eq_true, decide_eq_true_eq] at h
  exact ⟨h.1.1, h.1.2, h.2⟩
theorem e_pow (ha : EvE K fm ta σ G O zI a) (hb : EvE K fm tb σ G O zI b) : EvE K fm (tOp (L2.rI CPow fun i j => .int (i ^ j.toNat)) ta tb) σ G O zI (powM a b) := e_opI (c := cpow) (fun _ _ h => cpow_ok h) ha hb
theorem e_shl (ha : EvE K fm ta σ G O zI a) (hb : EvE K fm tb σ G O zI b) : EvE K fm (tOp (L2.rI CPow fun i j => .int (i * 2 ^ j.toNat)) ta tb) σ G O zI (shlM a b) := e_opI (c := cpow) (fun _ _ h => cpow_ok h) ha hb
theorem e_shr (ha : EvE K fm ta σ G O zI a) (hb : EvE K fm tb σ G O zI b) : EvE K fm (tOp (L2.rI (fun _ j => 0 ≤ j) fun i j => .int (i / 2 ^ j.toNat)) ta tb) σ G O zI (shrM a b) := e_opI (c := fun _ j => decide (0 ≤ j)) (fun i j h => by simpa using h) ha hb
theorem e_neg (ha : EvE K fm ta σ G O zI a) : EvE K fm (tUn (L2.rU fun i => .int (-i)) ta) σ G O zI (negM a) :=
  e_un ha fun G1 H1 x u k ru Q q => ⟨x, ru, q _ G1 H1 (Stp.refl k.gh) rfl⟩
end
end Mw

namespace Mw
open PySem L2
section
variable {α β γ δ : Type} {K : PySem.W.Frag} {fm : Fm} {σ : L2.St} {G G' H : Hp} {O : Own}
variable {te ta tb tc : TE} {R : Rp α} {S : Rp β} {T : Rp γ} {m : Res α} {n : Res β}

/-! ### comparisons of ints -/
def cmpM (p : Int → Int → Bool) : Res Int → Res Int → Res Bool := Res.bind2 fun i j => .ok (p i j)
abbrev ltM := cmpM fun i j => decide (i < j)
abbrev leM := cmpM fun i j => decide (i ≤ j)
abbrev gtM := cmpM fun i j => decide (j < i)
abbrev geM := cmpM fun i j => decide (j ≤ i)
@[simp] theorem cmpM_ok (p : Int → Int → Bool) (i j : Int) : cmpM p (.ok i) (.ok j) = .ok (p i j) := rfl
theorem e_cmp {p : Int → Int → Bool} {a b : Res Int} (ha : EvE K fm ta σ G O zI a) (hb : EvE K fm tb σ G O zI b) : EvE K fm (tOp (L2.rI0 fun i j => .bl (p i j)) ta tb) σ G O rB (cmpM p a b) :=
  e_op ha hb fun G1 H1 x y u v k ru rv Q q => ⟨x, y, ru, rv, q _ G1 H1 (Stp.refl k.gh) rfl⟩

/-! ### scalars: their values -/
structure Sr {α : Type} [DecidableEq α] (R : Rp α) where
  enc : α → V
  is : ∀ {K G v x}, R.r K G v x → v = enc x
  inj : ∀ {x y}, enc x = enc y → x = y
  sc : ∀ x y, scal (enc x) (enc y) = true
  fl : ∀ x, flatV (enc x) = true
  eq : ∀ x y, eqV (enc x) (enc y) = decide (x = y)
def srI : Sr zI := ⟨.int, fun h => h, fun h => by injection h, fun _ _ => rfl, fun _ => rfl, fun x y => by show (x == y) = _; rw [Bool.beq_eq_decide_eq]⟩
def srB : Sr rB := ⟨.bl, fun h => h, fun h => by injection h, fun _ _ => rfl, fun _ => rfl, fun x y => by show (x == y) = _; rw [Bool.beq_eq_decide_eq]⟩
def srS : Sr rS := ⟨.str, fun h => h, fun h => by injection h, fun _ _ => rfl, fun _ => rfl, fun x y => by show (x == y) = _; rw [Bool.beq_eq_decide_eq]⟩
def encO {α : Type} (e : α → V) : Option α → V
  | none => .non
  | some a => e a
def srOI : Sr (rO zI) := ⟨encO .int, fun {K G v x} h => by
    cases x with
    | none => exact h
    | some a => exact h.2, fun {x y} h => by
    cases x <;> cases y
    · rfl
    · cases h
    · cases h
    · injection h with h; rw [h], fun x y => by cases x <;> cases y <;> rfl, fun x => by cases x <;> rfl, fun x y => by
    cases x <;> cases y
    · rfl
    · rfl
    · rfl
    · rename_i a b
      show (a == b) = _
      rw [Bool.beq_eq_decide_eq]
      exact decide_eq_decide.mpr ⟨fun h => by rw [h], fun h => by injection h⟩⟩
def eqM {α : Type} [DecidableEq α] : Res α → Res α → Res Bool := Res.bind2 fun x y => .ok (decide (x = y))
def neM {α : Type} [DecidableEq α] : Res α → Res α → Res Bool := Res.bind2 fun x y => .ok (!decide (x = y))
@[simp] theorem eqM_ok {α : Type} [DecidableEq α] (x y : α) : eqM (.ok x) (.ok y) = .ok (decide (x = y)) := rfl
@[simp] theorem neM_ok {α : Type} [DecidableEq α] (x y : α) : neM (.ok x) (.ok y) = .ok (!decide (x = y)) := rfl
theorem e_eq [DecidableEq α] (s : Sr R) {n : Res α} (ha : EvE K fm ta σ G O R m) (hb : EvE K fm tb σ G O R n) : EvE K fm (tOp rEq ta tb) σ G O rB (eqM m n) :=
  e_op ha hb fun G1 H1 x y u v k ru rv Q q => by
    cases s.is ru; cases s.is rv
    exact ⟨s.sc x y, q _ G1 H1 (Stp.refl k.gh) (by
      show V.bl _ = V.bl _
      rw [decide_eq_decide.mpr ⟨s.inj, fun h => by rw [h]⟩])⟩
theorem e_ne [DecidableEq α] (s : Sr R) {n : Res α} (ha : EvE K fm ta σ G O R m) (hb : EvE K fm tb σ G O R n) : EvE K fm (tOp rNe ta tb) σ G O rB (neM m n) :=
  e_op ha hb fun G1 H1 x y u v k ru rv Q q => by
    cases s.is ru; cases s.is rv
    exact ⟨s.sc x y, q _ G1 H1 (Stp.refl k.gh) (by
      show V.bl _ = V.bl _
      rw [decide_eq_decide.mpr ⟨s.inj, fun h => by rw [h]⟩])⟩
/-- is None -/
def isNM {α : Type} (a : Res (Option α)) : Res Bool := a.bind fun x => .ok x.isNone
def notNM {α : Type} (a : Res (Option α)) : Res Bool := a.bind fun x => .ok x.isSome
@[simp] theorem isNM_ok {α : Type} (x : Option α) : isNM (.ok x) = .ok x.isNone := rfl
@[simp] theorem notNM_ok {α : Type} (x : Option α) : notNM (.ok x) = .ok x.isSome := rfl
theorem rO_none {R : Rp α} {v : V} {x : Option α} (h : (rO R).r K G v x) : decide (v = .non) = x.isNone := by
  cases x with
  | none => exact decide_eq_true h
  | some a => exact decide_eq_false h.1
theorem e_isN {a : Res (Option α)} (ha : EvE K fm ta σ G O (rO R) a) : EvE K fm (tOp (fun x y H Q => y = .non ∧ Q (.bl (decide (x = .non))) H) ta (tC .non)) σ G O rB (isNM a) := fun G1 H1 e k Q q =>
  ha G1 H1 e k _ (Res.wp_mono (Res.wp_bind q) (fun x q v G2 H2 s r => ⟨rfl, by rw [rO_none r]; exact q _ G2 H2 s rfl⟩) fun _ _ z => z)
theorem e_notN {a : Res (Option α)} (ha : EvE K fm ta σ G O (rO R) a) : EvE K fm (tOp (fun x y H Q => y = .non ∧ Q (.bl (!decide (x = .non))) H) ta (tC .non)) σ G O rB (notNM a) := fun G1 H1 e k Q q =>
  ha G1 H1 e k _ (Res.wp_mono (Res.wp_bind q) (fun x q v G2 H2 s r => ⟨rfl, by
    rw [rO_none r]
    exact q _ G2 H2 s (by show V.bl _ = V.bl _; cases x <;> rfl)⟩) fun _ _ z => z)

/-! ### == of nested data -/
structure Qd {α : Type} [DecidableEq α] (R : Rp α) where
  dat : α → PyData
  dp : ∀ {K G v x}, R.r K G v x → Dp K G v (dat x)
  lay : ∀ x, (dat x).canLay0 = true
  dep : Nat
  dle : ∀ x, (dat x).depth ≤ dep
  eqv : ∀ x y, PyData.eqv (dat x) (dat y) = decide (x = y)
  nn : Bool
  nnd : nn = true → ∀ x, dat x ≠ .none
structure Qds {α : Type} [DecidableEq α] (R : Rps α) where
  dat : α → List PyData
  dp : ∀ {K G v x}, R.r K G v x → DpAll K G v (dat x)
  lay : ∀ x, PyData.canLayAll0 (dat x) = true
  dep : Nat
  dle : ∀ x, PyData.depthAll (dat x) ≤ dep
  eqv : ∀ x y, PyData.eqvAll (dat x) (dat y) = decide (x = y)
def qI : Qd zI := ⟨.int, fun h => by cases h; exact .int _, fun _ => rfl, 0, fun _ => Nat.le_refl _, fun x y => by simp only [PyData.eqv]; rw [Bool.beq_eq_decide_eq], true, fun _ _ h => nomatch h⟩
def qB : Qd rB := ⟨.bool, fun h => by cases h; exact .bl _, fun _ => rfl, 0, fun _ => Nat.le_refl _, fun x y => by simp only [PyData.eqv]; rw [Bool.beq_eq_decide_eq], true, fun _ _ h => nomatch h⟩
theorem eqv_none_l {d : PyData} (h : d ≠ .none) : PyData.eqv .none d = false := by
  cases d <;> first | exact absurd rfl h | simp [PyData.eqv]
theorem eqv_none_r {d : PyData} (h : d ≠ .none) : PyData.eqv d .none = false := by
  cases d <;> first | exact absurd rfl h | simp [PyData.eqv]
def qO [DecidableEq α] (q : Qd R) (hn : q.nn = true) : Qd (rO R) where
  dat o := match o with | none => .none | some a => q.dat a
  dp {K G v x} h := by
    cases x with
    | none => cases (show v = .non from h); exact .non
    | some a => exact q.dp h.2
  lay o := by cases o; rfl; exact q.lay _
  dep := q.dep
  dle o := by cases o; exact Nat.zero_le _; exact q.dle _
  eqv x y := by
    cases x <;> cases y
    · simp [PyData.eqv]
    · rw [eqv_none_l (q.nnd hn _)]; simp
    · rw [eqv_none_r (q.nnd hn _)]; simp
    · show PyData.eqv (q.dat _) (q.dat _) = _
      rw [q.eqv]; exact decide_eq_decide.mpr ⟨fun h => by rw [h], fun h => by injection h⟩
  nn := false
  nnd h := nomatch h
theorem canLayAll_map [DecidableEq α] (q : Qd R) : ∀ xs : List α, PyData.canLayAll0 (xs.map q.dat) = true
  | [] => rfl
  | x :: xs => by rw [List.map_cons, PyData.canLayAll0, q.lay x, canLayAll_map q xs]; rfl
theorem depthAll_map [DecidableEq α] (q : Qd R) : ∀ xs : List α, PyData.depthAll (xs.map q.dat) ≤ q.dep
  | [] => Nat.zero_le _
  | x :: xs => by rw [List.map_cons, PyData.depthAll]; exact Nat.max_le.mpr ⟨q.dle x, depthAll_map q xs⟩
theorem eqvAll_map [DecidableEq α] (q : Qd R) : ∀ xs ys : List α, PyData.eqvAll (xs.map q.dat) (ys.map q.dat) = decide (xs = ys)
  | [], [] => by simp only [List.map_nil, PyData.eqvAll, decide_true]
  | [], _ :: _ => by simp [PyData.eqvAll]
  | _ :: _, [] => by simp [PyData.eqvAll]
  | x :: xs, y :: ys => by
    rw [List.map_cons, List.map_cons, PyData.eqvAll, q.eqv x y, eqvAll_map q xs ys, ← Bool.decide_and]
    exact decide_eq_decide.mpr (by rw [List.cons.injEq])
theorem dpAll_map [DecidableEq α] (q : Qd R) {vs : List V} {xs : List α} (h : RLs R K G vs xs) : DpAll K G vs (xs.map q.dat) := by
  induction h with
  | nil => exact .nil
  | cons r t ih => exact .cons (q.dp r) ih
def qL [DecidableEq α] (q : Qd R) : Qd (rL R) where
  dat xs := .list (xs.map q.dat)
  dp {K G v x} h := by
    obtain ⟨p, vs, e, h, r⟩ := h
    subst e
    exact .lst h (dpAll_map q r)
  lay xs := by rw [PyData.canLay0]; exact canLayAll_map q xs
  dep := q.dep + 1
  dle xs := by rw [PyData.depth]; exact Nat.succ_le_succ (depthAll_map q xs)
  eqv x y := by rw [PyData.eqv]; exact eqvAll_map q x y
  nn := true
  nnd _ _ h := nomatch h
def qT [DecidableEq α] (q : Qd R) : Qd (rT R) where
  dat xs := .tuple (xs.map q.dat)
  dp {K G v x} h := by
    obtain ⟨p, vs, e, h, r⟩ := h
    subst e
    exact .tup h (dpAll_map q r)
  lay xs := by rw [PyData.canLay0]; exact canLayAll_map q xs
  dep := q.dep + 1
  dle xs := by rw [PyData.depth]; exact Nat.succ_le_succ (depthAll_map q xs)
  eqv x y := by rw [PyData.eqv]; exact eqvAll_map q x y
  nn := true
  nnd _ _ h := nomatch h
def qs1 [DecidableEq α] (q : Qd R) : Qds (rs1 R) where
  dat x := [q.dat x]
  dp {K G v x} h := by
    obtain ⟨u, e, h⟩ := h
    subst e
    exact .cons (q.dp h) .nil
  lay x := by simp only [PyData.canLayAll0, q.lay, Bool.and_self]
  dep := q.dep
  dle x := by simp only [PyData.depthAll]; exact Nat.max_le.mpr ⟨q.dle x, Nat.zero_le _⟩
  eqv x y := by simp only [PyData.eqvAll, q.eqv, Bool.and_true]
def qsC [DecidableEq α] [DecidableEq β] {S : Rps β} (q : Qd R) (q' : Qds S) : Qds (rsC R S) where
  dat x := q.dat x.1 :: q'.dat x.2
  dp {K G v x} h := by
    obtain ⟨u, r, e, h, t⟩ := h
    subst e
    exact .cons (q.dp h) (q'.dp t)
  lay x := by simp only [PyData.canLayAll0, q.lay, q'.lay, Bool.and_self]
  dep := max q.dep q'.dep
  dle x := by
    simp only [PyData.depthAll]
    exact Nat.max_le.mpr ⟨Nat.le_trans (q.dle x.1) (Nat.le_max_left _ _), Nat.le_trans (q'.dle x.2) (Nat.le_max_right _ _)⟩
  eqv x y := by
    simp only [PyData.eqvAll, q.eqv, q'.eqv]
    rw [← Bool.decide_and]
    exact decide_eq_decide.mpr ⟨fun e => Prod.ext e.1 e.2, fun e => by rw [e]; exact ⟨rfl, rfl⟩⟩
def qP [DecidableEq α] {S : Rps α} (q : Qds S) : Qd (rP S) where
  dat x := .tuple (q.dat x)
  dp {K G v x} h := by
    obtain ⟨p, vs, e, h, r⟩ := h
    subst e
    exact .tup h (q.dp r)
  lay x := by rw [PyData.canLay0]; exact q.lay x
  dep := q.dep + 1
  dle x := by rw [PyData.depth]; exact Nat.succ_le_succ (q.dle x)
  eqv x y := by rw [PyData.eqv]; exact q.eqv x y
  nn := true
  nnd _ _ h := nomatch h
mutual
theorem Dp.same {G G' : Hp} (e : Same G G') : ∀ {v : V} {d : PyData}, Dp K G v d → Dp K G' v d
  | _, _, .non => .non
  | _, _, .bl b => .bl b
  | _, _, .int b => .int b
  | _, _, .str b => .str b
  | _, _, .lst h t => .lst (same_l e h) (Dp.sameAll e t)
  | _, _, .tup h t => .tup (same_t e h) (Dp.sameAll e t)
theorem Dp.sameAll {G G' : Hp} (e : Same G G') : ∀ {v : List V} {d : List PyData}, DpAll K G v d → DpAll K G' v d
  | _, _, .nil => .nil
  | _, _, .cons h t => .cons (Dp.same e h) (Dp.sameAll e t)
end
theorem Qd.shaped [DecidableEq α] (q : Qd R) (h : q.dep ≤ 64) (x : α) : SeqAt.shaped (q.dat x) = true := by
  simp only [SeqAt.shaped, q.lay, Bool.true_and]
  exact decide_eq_true (Nat.le_trans (q.dle x) h)
theorem e_eqD [DecidableEq α] (q : Qd R) (hd : q.dep ≤ 64) {n : Res α} (ha : EvE K fm ta σ G O R m) (hb : EvE K fm tb σ G O R n) : EvE K fm (tOp (rEqD K) ta tb) σ G O rB (eqM m n) :=
  e_op ha hb fun G1 H1 x y u v k ru rv Q h => ⟨_, _, Dp.same k.gh (q.dp ru), Dp.same k.gh (q.dp rv), q.shaped hd _, q.shaped hd _, h _ G1 H1 (Stp.refl k.gh) (by show V.bl _ = V.bl _; rw [q.eqv])⟩
theorem e_neD [DecidableEq α] (q : Qd R) (hd : q.dep ≤ 64) {n : Res α} (ha : EvE K fm ta σ G O R m) (hb : EvE K fm tb σ G O R n) : EvE K fm (tOp (rNeD K) ta tb) σ G O rB (neM m n) :=
  e_op ha hb fun G1 H1 x y u v k ru rv Q h => ⟨_, _, Dp.same k.gh (q.dp ru), Dp.same k.gh (q.dp rv), q.shaped hd _, q.shaped hd _, h _ G1 H1 (Stp.refl k.gh) (by show V.bl _ = V.bl _; rw [q.eqv])⟩

/-! ### in -/
def inM {α : Type} [DecidableEq α] : Res α → Res (List α) → Res Bool := Res.bind2 fun x xs => .ok (decide (x ∈ xs))
def ninM {α : Type} [DecidableEq α] : Res α → Res (List α) → Res Bool := Res.bind2 fun x xs => .ok (!decide (x ∈ xs))
@[simp] theorem inM_ok {α : Type} [DecidableEq α] (x : α) (xs) : inM (.ok x) (.ok xs) = .ok (decide (x ∈ xs)) := rfl
@[simp] theorem ninM_ok {α : Type} [DecidableEq α] (x : α) (xs) : ninM (.ok x) (.ok xs) = .ok (!decide (x ∈ xs)) := rfl
theorem sr_vals [DecidableEq α] (s : Sr R) {vs : List V} {xs : List α} (h : RLs R K G vs xs) : vs = xs.map s.enc := by
  induction h with
  | nil => rfl
  | cons r t ih => rw [ih, s.is r]; rfl
theorem sr_all [DecidableEq α] (s : Sr R) (xs : List α) : (xs.map s.enc).all flatV = true := by
  rw [List.all_eq_true]
  intro y hy
  obtain ⟨x, _, e⟩ := List.mem_map.mp hy
  rw [← e]; exact s.fl x
theorem sr_in [DecidableEq α] (s : Sr R) (x : α) : ∀ xs : List α, inV (s.enc x) (xs.map s.enc) = decide (x ∈ xs)
  | [] => by simp [inV]
  | y :: xs => by
    have ih := sr_in s x xs
    unfold inV at ih ⊢
    rw [List.map_cons, List.any_cons, ih, s.eq, ← Bool.decide_or]
    exact decide_eq_decide.mpr (by rw [List.mem_cons]; exact ⟨fun h => h.imp (fun e => e.symm) id, fun h => h.imp (fun e => e.symm) id⟩)
/-- what a list or tuple reads as -/
def Sq (K : PySem.W.Frag) (C : Rp (List α)) (R : Rp α) : Prop := ∀ G v xs, C.r K G v xs → ∃ p vs, v = .ref p ∧ (SqL K G p vs ∨ SqT K G p vs) ∧ RLs R K G vs xs
theorem sq_L : Sq K (rL R) R := fun G v xs ⟨p, vs, a, b, c⟩ => ⟨p, vs, a, .inl b, c⟩
theorem sq_T : Sq K (rT R) R := fun G v xs ⟨p, vs, a, b, c⟩ => ⟨p, vs, a, .inr b, c⟩
theorem same_q {H H' : Hp} {a : Addr} {xs : List V} (e : Same H H') (h : SqL K H a xs ∨ SqT K H a xs) : SqL K H' a xs ∨ SqT K H' a xs := h.imp (same_l e) (same_t e)
theorem e_in [DecidableEq α] (s : Sr R) {C : Rp (List α)} (c : Sq K C R) {n : Res (List α)} (ha : EvE K fm ta σ G O R m) (hb : EvE K fm tb σ G O C n) : EvE K fm (tOp (rIn K false) ta tb) σ G O rB (inM m n) :=
  e_op ha hb fun G1 H1 x y u v k ru rv Q q => by
    obtain ⟨p, vs, e, h, r⟩ := c _ _ _ rv
    subst e
    cases s.is ru; cases sr_vals s r
    exact ⟨p, _, rfl, same_q k.gh h, s.fl x, sr_all s y, q _ G1 H1 (Stp.refl k.gh) (by
      show V.bl (if false = true then _ else _) = V.bl _
      rw [if_neg Bool.false_ne_true, sr_in])⟩
theorem e_nin [DecidableEq α] (s : Sr R) {C : Rp (List α)} (c : Sq K C R) {n : Res (List α)} (ha : EvE K fm ta σ G O R m) (hb : EvE K fm tb σ G O C n) : EvE K fm (tOp (rIn K true) ta tb) σ G O rB (ninM m n) :=
  e_op ha hb fun G1 H1 x y u v k ru rv Q q => by
    obtain ⟨p, vs, e, h, r⟩ := c _ _ _ rv
    subst e
    cases s.is ru; cases sr_vals s r
    exact ⟨p, _, rfl, same_q k.gh h, s.fl x, sr_all s y, q _ G1 H1 (Stp.refl k.gh) (by
      show V.bl (if true = true then _ else _) = V.bl _
      rw [if_pos rfl, sr_in])⟩

/-! ### items -/
def optM {α : Type} : Option α → Res α
  | some a => .ok a
  | none => .stuck
@[simp] theorem optM_some {α : Type} (a : α) : optM (some a) = .ok a := rfl
def idxM {α : Type} : Res (List α) → Res Int → Res α := Res.bind2 fun xs i => optM (atI xs i)
@[simp] theorem idxM_ok {α : Type} (xs : List α) (i : Int) : idxM (.ok xs) (.ok i) = optM (atI xs i) := rfl
theorem paired_at {F : α → β → Prop} {xs : List α} {ys : List β} (h : Paired F xs ys) {i : Int} {y : β} (e : atI ys i = some y) : ∃ x, atI xs i = some x ∧ F x y := by
  unfold atI at e ⊢
  rw [Paired.length h]
  cases q : ixN ys.length i with
  | none => rw [q] at e; cases e
  | some j =>
    rw [q] at e
    exact paired_get' h e
theorem e_ixL {m : Res (List α)} {n : Res Int} (ha : EvE K fm ta σ G O (rL R) m) (hb : EvE K fm tb σ G O zI n) : EvE K fm (tOp (rIxL K) ta tb) σ G O R (idxM m n) :=
  e_op ha hb fun G1 H1 xs i u v k ru rv Q q => by
    obtain ⟨p, vs, e, h, r⟩ := ru
    subst e
    cases (show v = .int i from rv)
    cases ea : atI xs i with
    | none => rw [ea] at q; exact q.elim
    | some y =>
      rw [ea] at q
      obtain ⟨w, ew, rw'⟩ := paired_at r ea
      exact ⟨p, vs, i, w, rfl, rfl, same_l k.gh h, ew, q w G1 H1 (Stp.refl k.gh) rw'⟩
theorem e_ixT {m : Res (List α)} {n : Res Int} (ha : EvE K fm ta σ G O (rT R) m) (hb : EvE K fm tb σ G O zI n) : EvE K fm (tOp (rIxT K) ta tb) σ G O R (idxM m n) :=
  e_op ha hb fun G1 H1 xs i u v k ru rv Q q => by
    obtain ⟨p, vs, e, h, r⟩ := ru
    subst e
    cases (show v = .int i from rv)
    cases ea : atI xs i with
    | none => rw [ea] at q; exact q.elim
    | some y =>
      rw [ea] at q
      obtain ⟨w, ew, rw'⟩ := paired_at r ea
      exact ⟨p, vs, i, w, rfl, rfl, same_t k.gh h, ew, q w G1 H1 (Stp.refl k.gh) rw'⟩
/-- an item of a tuple of a fixed length -/
def Pj {α β : Type} (S : Rps α) (k : Nat) (R : Rp β) (f : α → β) : Prop := ∀ K G vs a, S.r K G vs a → ∃ v, vs[k]? = some v ∧ R.r K G v (f a)
theorem pj1 : Pj (rs1 R) 0 R (fun a => a) := fun K G vs a ⟨v, e, h⟩ => ⟨v, by rw [e]; rfl, h⟩
theorem pj0 {S : Rps β} : Pj (rsC R S) 0 R (fun a => a.1) := fun K G vs a ⟨v, r, e, h, t⟩ => ⟨v, by rw [e]; rfl, h⟩
theorem pjS {S : Rps β} {k : Nat} {f : β → γ} (h : Pj S k T f) : Pj (rsC R S) (k + 1) T (fun a => f a.2) := fun K G vs a ⟨v, r, e, _, t⟩ => by
  obtain ⟨w, ew, hw⟩ := h K G r a.2 t
  exact ⟨w, by rw [e]; simpa using ew, hw⟩
theorem e_proj {S : Rps α} {k : Nat} {f : α → β} {R : Rp β} (hp : Pj S k R f) (ha : EvE K fm ta σ G O (rP S) m) : EvE K fm (tOp (rIxT K) ta (tC (.int (k : Int)))) σ G O R (m.bind fun a => .ok (f a)) := fun G1 H1 e k' Q q =>
  ha G1 H1 e k' _ (Res.wp_mono (Res.wp_bind q) (fun x q v G2 H2 s r => by
    obtain ⟨p, vs, ev, h, rs⟩ := r
    obtain ⟨w, ew, hw⟩ := hp K G2 vs x rs
    exact ⟨p, vs, (k : Int), w, ev, rfl, same_t s.gh h, L2.atI_nat ew, q w G2 H2 s hw⟩) fun _ _ z => z)

/-! ### argument lists, displays -/
def pairM {α β : Type} : Res α → Res β → Res (α × β) := Res.bind2 fun x y => .ok (x, y)
@[simp] theorem pairM_ok {α β : Type} (x : α) (y : β) : pairM (.ok x) (.ok y) = .ok (x, y) := rfl
theorem a_one (h : EvE K fm te σ G O R m) : EvA K fm (tCons te tNil) σ G O (rs1 R) m := fun G1 H1 e k Q q =>
  h G1 H1 e k _ (Res.wp_mono q (fun x f v G2 H2 s r => f [v] G2 H2 s ⟨v, rfl, r⟩) fun _ _ z => z)
theorem a_cons {S : Rps β} {tr : TA} (h : EvE K fm te σ G O R m) (hr : EvA K fm tr σ G O S n) : EvA K fm (tCons te tr) σ G O (rsC R S) (pairM m n) := fun G1 H1 e k Q q =>
  h G1 H1 e k _ (Res.wp_mono (Res.wp_bind q) (fun x q v G2 H2 s r =>
    hr G2 H2 (e.trans s.gg) (k.stp s) _ (Res.wp_mono (Res.wp_bind q) (fun y q vs G3 H3 s' r' => q (v :: vs) G3 H3 (s.trans s') ⟨v, vs, rfl, R.mono s'.gg r, r'⟩) fun _ _ z => z)) fun _ _ z => z)
/-- n items of one kind -/
def rsL {α : Type} (n : Nat) (R : Rp α) : Rps (List α) := ⟨fun K G vs xs => RLs R K G vs xs ∧ vs.length = n, fun e ⟨a, b⟩ => ⟨a.mono e, b⟩⟩
def consM {α : Type} : Res α → Res (List α) → Res (List α) := Res.bind2 fun x xs => .ok (x :: xs)
@[simp] theorem consM_ok {α : Type} (x : α) (xs) : consM (.ok x) (.ok xs) = .ok (x :: xs) := rfl
theorem l_nil : EvA K fm tNil σ G O (rsL 0 R) (.ok []) := fun G1 H1 e k Q q => q [] G1 H1 (Stp.refl k.gh) ⟨.nil, rfl⟩
theorem l_cons {tr : TA} {i : Nat} {n : Res (List α)} (h : EvE K fm te σ G O R m) (hr : EvA K fm tr σ G O (rsL i R) n) : EvA K fm (tCons te tr) σ G O (rsL (i + 1) R) (consM m n) := fun G1 H1 e k Q q =>
  h G1 H1 e k _ (Res.wp_mono (Res.wp_bind q) (fun x q v G2 H2 s r =>
    hr G2 H2 (e.trans s.gg) (k.stp s) _ (Res.wp_mono (Res.wp_bind q) (fun y q vs G3 H3 s' r' => q (v :: vs) G3 H3 (s.trans s') ⟨.cons (R.mono s'.gg r) r'.1, by rw [List.length_cons, r'.2]⟩) fun _ _ z => z)) fun _ _ z => z)
theorem e_lst {t : TA} {i : Nat} {n : Res (List α)} (h : EvA K fm t σ G O (rsL i R) n) (hi : i ≤ sizeLine) : EvN K fm (tLst t) σ G O R n := fun G1 H1 e k Q q =>
  h G1 H1 e k _ (Res.wp_mono q (fun xs f vs G2 H2 s r => ⟨by rw [r.2]; exact hi, fun p hp =>
    f p vs G2 (upd H2 p (.lst vs)) (s.trans (Stp.grow s.gh (same_new hp))) (same_back s.hh hp) (same_back s.gh hp) upd_same r.1⟩) fun _ _ z => z)
/-- how many values a list has -/
def Ln {α : Type} (S : Rps α) (n : Nat) : Prop := ∀ K G vs a, S.r K G vs a → vs.length = n
theorem ln1 : Ln (rs1 R) 1 := fun K G vs a ⟨v, e, _⟩ => by rw [e]; rfl
theorem lnC {S : Rps β} {n : Nat} (h : Ln S n) : Ln (rsC R S) (n + 1) := fun K G vs a ⟨v, r, e, _, t⟩ => by rw [e, List.length_cons, h K G r a.2 t]
theorem e_tup {S : Rps α} {t : TA} {i : Nat} (l : Ln S i) (h : EvA K fm t σ G O S m) (hi : i ≤ sizeLine) : EvE K fm (tTup t) σ G O (rP S) m := fun G1 H1 e k Q q =>
  h G1 H1 e k _ (Res.wp_mono q (fun x f vs G2 H2 s r => ⟨by rw [l K G2 vs x r]; exact hi, fun p hp =>
    f (.ref p) (upd G2 p (.tup vs)) (upd H2 p (.tup vs)) (s.trans (Stp.new s.gh hp)) ⟨p, vs, rfl, .inl (.inl upd_same), S.mono (same_new (same_back s.gh hp)) r⟩⟩) fun _ _ z => z)
/-- a display of a tuple whose items are of one kind -/
theorem e_tupT {t : TA} {i : Nat} {n : Res (List α)} (h : EvA K fm t σ G O (rsL i R) n) (hi : i ≤ sizeLine) : EvE K fm (tTup t) σ G O (rT R) n := fun G1 H1 e k Q q =>
  h G1 H1 e k _ (Res.wp_mono q (fun x f vs G2 H2 s r => ⟨by rw [r.2]; exact hi, fun p hp =>
    f (.ref p) (upd G2 p (.tup vs)) (upd H2 p (.tup vs)) (s.trans (Stp.new s.gh hp)) ⟨p, vs, rfl, .inl (.inl upd_same), r.1.mono (same_new (same_back s.gh hp))⟩⟩) fun _ _ z => z)

/-! ### calls of defs -/
/-- what a def promises: the representation of its arguments, of its answer, its mirror -/
def spP {α β : Type} (K : PySem.W.Frag) (cl : Nat → Addr) (S : Rps α) (R : Rp β) (f : α → Res β) : Sp := fun vs H Q E => ∃ G a, Same G H ∧ S.r K G vs a ∧
  Wp (f a) (fun y => ∀ v G' H', Stp G H G' H' → R.r K G' v y → Q v H') (fun c fs => ∀ H' d, Same H H' → XdOk fs d H' → E (.ref (cl c)) d H')
theorem e_call {S : Rps α} {f : α → Res β} {R : Rp β} {t : TA} (h : EvA K fm t σ G O S m) : EvE K fm (tCall (spP K fm.cl S R f) [] fm.E t) σ G O R (m.bind f) := fun G1 H1 e k Q q =>
  h G1 H1 e k _ (Res.wp_mono (Res.wp_bind q) (fun x q vs G2 H2 s r => ⟨G2, x, s.gh, by rw [List.append_nil]; exact r,
    .mk (Res.wp_mono q (fun y q v G3 H3 s' rv => q v G3 H3 (s.trans s') rv) fun c fs z H' d a b => z H' d ((k.stp s).fr.trans a) b)⟩) fun _ _ z => z)
/-- a call where no exception may leave -/
theorem e_call0 {S : Rps α} {f : α → Res β} {R : Rp β} {t : TA} (h : EvA K fm t σ G O S m) : EvE K fm (tCall (spP K fm.cl S R f) [] E0 t) σ G O R (m.bind fun a => (f a).nox) := fun G1 H1 e k Q q =>
  h G1 H1 e k _ (Res.wp_mono (Res.wp_bind q) (fun x q vs G2 H2 s r => ⟨G2, x, s.gh, by rw [List.append_nil]; exact r,
    .mk (Res.wp_mono (Res.wp_nox (E' := fun _ _ => False) q) (fun y q v G3 H3 s' rv => q v G3 H3 (s.trans s') rv) fun c fs z => z.elim)⟩) fun _ _ z => z)

/-! ### built-ins -/
theorem e_cb {S : Rps α} {r : List V → Hp → VK → Prop} {f : α → Res γ} {t : TA} (h : EvA K fm t σ G O S m)
    (hr : ∀ G1 H1 x vs, Kn fm G1 O H1 → S.r K G1 vs x → ∀ Q : VK, (f x).wp (fun z => ∀ w G2 H2, Stp G1 H1 G2 H2 → T.r K G2 w z → Q w H2) fm.xw → r vs H1 Q) : EvE K fm (tCB r t) σ G O T (m.bind f) := fun G1 H1 e k Q q =>
  h G1 H1 e k _ (Res.wp_mono (Res.wp_bind q) (fun x q vs G2 H2 s rs =>
    hr G2 H2 x vs (k.stp s) rs Q (Res.wp_mono q (fun z q w G4 H4 s'' rw => q w G4 H4 (s.trans s'') rw) fun _ _ z => z)) fun _ _ z => z)
theorem n_cb {S : Rps α} {r : List V → Hp → VK → Prop} {f : α → Res (List γ)} {t : TA} (h : EvA K fm t σ G O S m)
    (hr : ∀ G1 H1 x vs, Kn fm G1 O H1 → S.r K G1 vs x → ∀ Q : VK, (f x).wp (fun xs => ∀ p vs G2 H2, Stp G1 H1 G2 H2 → H1 p = none → G2 p = none → H2 p = some (.lst vs) → RLs T K G2 vs xs → Q (.ref p) H2) fm.xw → r vs H1 Q) : EvN K fm (tCB r t) σ G O T (m.bind f) := fun G1 H1 e k Q q =>
  h G1 H1 e k _ (Res.wp_mono (Res.wp_bind q) (fun x q vs G2 H2 s rs =>
    hr G2 H2 x vs (k.stp s) rs Q (Res.wp_mono q (fun z q p w G4 H4 s'' hp gp hl rw => q p w G4 H4 (s.trans s'') (same_back s.hh hp) gp hl rw) fun _ _ z => z)) fun _ _ z => z)
abbrev rLen (K : PySem.W.Frag) : List V → Hp → VK → Prop := fun xs H Q => ∃ x n, xs = [x] ∧ LenV K x H n ∧ Q (.int n) H
def lenM {α : Type} (a : Res (List α)) : Res Int := a.bind fun xs => .ok (xs.length : Int)
@[simp] theorem lenM_ok {α : Type} (xs : List α) : lenM (.ok xs) = .ok (xs.length : Int) := rfl
theorem e_len {C : Rp (List α)} (c : Sq K C R) {m : Res (List α)} (h : EvE K fm te σ G O C m) : EvE K fm (tCB (rLen K) (tCons te tNil)) σ G O zI (lenM m) :=
  e_cb (a_one h) fun G1 H1 x vs k ⟨v, ev, r⟩ Q q => by
    subst ev
    obtain ⟨p, vs, e, h, r'⟩ := c _ _ _ r
    subst e
    refine ⟨_, x.length, rfl, ?_, q _ G1 H1 (Stp.refl k.gh) rfl⟩
    rw [← Paired.length r']
    exact h.imp (fun h => ⟨vs, same_l k.gh h, rfl⟩) fun h => ⟨vs, same_t k.gh h, rfl⟩
/-- the length of a fixed tuple -/
theorem e_lenP {S : Rps α} {i : Nat} (l : Ln S i) (h : EvE K fm te σ G O (rP S) m) : EvE K fm (tCB (rLen K) (tCons te tNil)) σ G O zI (m.bind fun _ => .ok (i : Int)) :=
  e_cb (a_one h) fun G1 H1 x vs k ⟨v, ev, p, ws, e, h, r⟩ Q q => by
    subst ev; subst e
    refine ⟨_, i, rfl, ?_, q _ G1 H1 (Stp.refl k.gh) rfl⟩
    rw [← l _ _ _ _ r]
    exact .inr ⟨ws, same_t k.gh h, rfl⟩
/-- list(..) -/
abbrev rLi (K : PySem.W.Frag) : List V → Hp → VK → Prop := fun xs H Q => ∃ p ys, xs = [.ref p] ∧ (SqL K H p ys ∨ SqT K H p ys) ∧ ∀ l, H l = none → Q (.ref l) (upd H l (.lst ys))
theorem n_list {C : Rp (List α)} (c : Sq K C R) {m : Res (List α)} (h : EvE K fm te σ G O C m) : EvN K fm (tCB (rLi K) (tCons te tNil)) σ G O R (m.bind .ok) :=
  n_cb (a_one h) fun G1 H1 x vs k ⟨v, ev, r⟩ Q q => by
    subst ev
    obtain ⟨p, vs, e, h, r'⟩ := c _ _ _ r
    subst e
    exact ⟨p, vs, rfl, same_q k.gh h, fun l hl => q l vs G1 _ (Stp.grow k.gh (same_new hl)) hl (same_back k.gh hl) upd_same r'⟩
/-- tuple(list) -/
abbrev rTu (K : PySem.W.Frag) : List V → Hp → VK → Prop := fun xs H Q => ∃ p ys, xs = [.ref p] ∧ ((SqL K H p ys ∧ ∀ l, H l = none → Q (.ref l) (upd H l (.tup ys))) ∨ (SqT K H p ys ∧ Q (.ref p) H))
theorem e_tupleL {m : Res (List α)} (h : EvE K fm te σ G O (rL R) m) : EvE K fm (tCB (rTu K) (tCons te tNil)) σ G O (rT R) (m.bind .ok) :=
  e_cb (a_one h) fun G1 H1 x vs k ⟨v, ev, r⟩ Q q => by
    subst ev
    obtain ⟨p, vs, e, h, r⟩ := r
    subst e
    exact ⟨p, vs, rfl, .inl ⟨same_l k.gh h, fun l hl => q _ _ _ (Stp.new k.gh hl) ⟨l, vs, rfl, .inl (.inl upd_same), r.mono (same_new (same_back k.gh hl))⟩⟩⟩
/-- int(n), int(flag) -/
abbrev rInt : List V → Hp → VK → Prop := fun xs H Q => (∃ i, xs = [.int i] ∧ Q (.int i) H) ∨ ∃ k, xs = [.bl k] ∧ Q (.int (if k then 1 else 0)) H
theorem e_intI {a : Res Int} (h : EvE K fm te σ G O zI a) : EvE K fm (tCB rInt (tCons te tNil)) σ G O zI (a.bind .ok) :=
  e_cb (a_one h) fun G1 H1 x vs k ⟨v, ev, r⟩ Q q => by
    subst ev; cases (show v = .int x from r)
    exact .inl ⟨x, rfl, q _ G1 H1 (Stp.refl k.gh) rfl⟩
def b2iM (a : Res Bool) : Res Int := a.bind fun b => .ok (if b then 1 else 0)
@[simp] theorem b2iM_ok (b : Bool) : b2iM (.ok b) = .ok (if b then 1 else 0) := rfl
theorem e_intB {a : Res Bool} (h : EvE K fm te σ G O rB a) : EvE K fm (tCB rInt (tCons te tNil)) σ G O zI (b2iM a) :=
  e_cb (a_one h) fun G1 H1 x vs k ⟨v, ev, r⟩ Q q => by
    subst ev; cases (show v = .bl x from r)
    exact .inr ⟨x, rfl, q _ G1 H1 (Stp.refl k.gh) rfl⟩
theorem rls_enc {enc : α → V} (h : ∀ {K G v x}, R.r K G v x → v = enc x) {vs : List V} {xs : List α} (r : RLs R K G vs xs) : vs = xs.map enc := by
  induction r with
  | nil => rfl
  | cons r t ih => rw [ih, h r]; rfl
def sumM (a : Res (List Int)) : Res Int := a.bind fun xs => .ok xs.sum
@[simp] theorem sumM_ok (xs) : sumM (.ok xs) = .ok xs.sum := rfl
theorem e_sum {m : Res (List Int)} (h : EvE K fm te σ G O (rL zI) m) : EvE K fm (tCB (rSum K) (tCons te tNil)) σ G O zI (sumM m) :=
  e_cb (a_one h) fun G1 H1 x vs k ⟨v, ev, p, ws, e, h, r⟩ Q q => by
    subst ev; subst e
    cases rls_enc (R := zI) (enc := V.int) (fun h => h) r
    exact ⟨p, x, rfl, same_l k.gh h, q _ G1 H1 (Stp.refl k.gh) rfl⟩
def anyM (a : Res (List Bool)) : Res Bool := a.bind fun xs => .ok (xs.any id)
def allM (a : Res (List Bool)) : Res Bool := a.bind fun xs => .ok (xs.all id)
@[simp] theorem anyM_ok (xs) : anyM (.ok xs) = .ok (xs.any id) := rfl
@[simp] theorem allM_ok (xs) : allM (.ok xs) = .ok (xs.all id) := rfl
theorem e_any {m : Res (List Bool)} (h : EvE K fm te σ G O (rL rB) m) : EvE K fm (tCB (rAny K) (tCons te tNil)) σ G O rB (anyM m) :=
  e_cb (a_one h) fun G1 H1 x vs k ⟨v, ev, p, ws, e, h, r⟩ Q q => by
    subst ev; subst e
    cases rls_enc (R := rB) (enc := V.bl) (fun h => h) r
    exact ⟨p, x, rfl, same_l k.gh h, q _ G1 H1 (Stp.refl k.gh) rfl⟩
theorem e_all {m : Res (List Bool)} (h : EvE K fm te σ G O (rL rB) m) : EvE K fm (tCB (rAll K) (tCons te tNil)) σ G O rB (allM m) :=
  e_cb (a_one h) fun G1 H1 x vs k ⟨v, ev, p, ws, e, h, r⟩ Q q => by
    subst ev; subst e
    cases rls_enc (R := rB) (enc := V.bl) (fun h => h) r
    exact ⟨p, x, rfl, same_l k.gh h, q _ G1 H1 (Stp.refl k.gh) rfl⟩

/-! ### lists: +, *, slices -/
def cutL {α : Type} (xs : List α) (lo hi : Option Int) : List α := (xs.drop (HT.sIx xs.length 0 lo)).take (HT.sIx xs.length xs.length hi - HT.sIx xs.length 0 lo)
theorem paired_cut {F : V → β → Prop} {vs : List V} {xs : List β} (h : Paired F vs xs) (lo hi : Option Int) : Paired F (cutV vs lo hi) (cutL xs lo hi) := by
  unfold cutV cutL
  rw [Paired.length h]
  exact paired_take _ (paired_drop _ h)
def EvO (fm : Fm) (to : TO) (σ : L2.St) (G : Hp) (O : Own) (m : Res (Option Int)) : Prop :=
  ∀ G1 H1, Same G G1 → Kn fm G1 O H1 → ∀ Q : Option Int → Hp → Prop, m.wp (fun x => ∀ G2 H2, Stp G1 H1 G2 H2 → Q x H2) fm.xw → to σ H1 Q
theorem o_none : EvO fm tNoPart σ G O (.ok none) := fun G1 H1 e k Q q => q G1 H1 (Stp.refl k.gh)
theorem o_some {a : Res Int} (h : EvE K fm te σ G O zI a) : EvO fm (tPart te) σ G O (someM a) := fun G1 H1 e k Q q =>
  h G1 H1 e k _ (Res.wp_mono (Res.wp_bind q) (fun x q v G2 H2 s r => ⟨x, r, q G2 H2 s⟩) fun _ _ z => z)
def sliceM {α : Type} (m : Res (List α)) (lo hi : Res (Option Int)) : Res (List α) := m.bind fun xs => lo.bind fun l => hi.bind fun h => .ok (cutL xs l h)
@[simp] theorem sliceM_ok {α : Type} (xs : List α) (l h) : sliceM (.ok xs) (.ok l) (.ok h) = .ok (cutL xs l h) := rfl
theorem n_slice {tl th : TO} {m : Res (List α)} {lo hi : Res (Option Int)} (h : EvE K fm te σ G O (rL R) m) (h1 : EvO fm tl σ G O lo) (h2 : EvO fm th σ G O hi) : EvN K fm (tSl (rSlL K) te tl th) σ G O R (sliceM m lo hi) := fun G1 H1 e k Q q =>
  h G1 H1 e k _ (Res.wp_mono (Res.wp_bind q) (fun xs q v G2 H2 s r =>
    h1 G2 H2 (e.trans s.gg) (k.stp s) _ (Res.wp_mono (Res.wp_bind q) (fun l q G3 H3 s' =>
      h2 G3 H3 ((e.trans s.gg).trans s'.gg) ((k.stp s).stp s') _ (Res.wp_mono (Res.wp_bind q) (fun hh q G4 H4 s'' => by
        obtain ⟨p, vs, ev, hq, rs⟩ := r
        have ss := (s.trans s').trans s''
        exact ⟨p, vs, ev, same_l ((s'.gg.trans s''.gg).trans ss.gh) hq, fun p' hp => q p' _ G4 _ (ss.trans (Stp.grow ss.gh (same_new hp))) (same_back ss.hh hp) (same_back ss.gh hp) upd_same (paired_cut (rs.mono (s'.gg.trans s''.gg)) _ _)⟩) fun _ _ z => z)) fun _ _ z => z)) fun _ _ z => z)
/-- a list that is one's own to write or was told to the ghost: rCat wants the tracked object itself -/
def rK {α : Type} (R : Rp α) : Rp (List α) := ⟨fun K G v xs => ∃ p vs, v = .ref p ∧ G p = some (.lst vs) ∧ RLs R K G vs xs, fun e ⟨p, vs, a, b, c⟩ => ⟨p, vs, a, e _ _ b, c.mono e⟩⟩
theorem rK_rL {v : V} {xs : List α} (h : (rK R).r K G v xs) : (rL R).r K G v xs := by
  obtain ⟨p, vs, a, b, c⟩ := h
  exact ⟨p, vs, a, .inl (.inl b), c⟩
theorem e_KL {m : Res (List α)} (h : EvE K fm te σ G O (rK R) m) : EvE K fm te σ G O (rL R) m := fun G1 H1 e k Q q =>
  h G1 H1 e k Q (Res.wp_mono q (fun xs q v G2 H2 s r => q v G2 H2 s (rK_rL r)) fun _ _ z => z)
theorem sq_K : Sq K (rK R) R := fun G v xs h => sq_L _ _ _ (rK_rL h)
theorem nn_K : Nn (rK R) := fun _ _ v x ⟨p, vs, h, _⟩ => by cases h; simp
theorem EvN.evK {m : Res (List α)} (h : EvN K fm te σ G O R m) : EvE K fm te σ G O (rK R) m := fun G1 H1 a k Q q =>
  h G1 H1 a k Q (Res.wp_mono q (fun xs f p vs G2 H2 s hp gp hl r =>
    f (.ref p) (upd G2 p (.lst vs)) H2 ⟨s.hh, s.gg.trans (same_new gp), same_updG s.gh hl, fun b o e => by
        rw [upd_ne (ne_of_none e hp)]; exact s.old b o e⟩
      ⟨p, vs, rfl, upd_same, r.mono (same_new gp)⟩) fun _ _ x => x)
def lim : Nat := 16777216
theorem lim_eq : lim = sizeLine := by rw [sizeLine_eq]; rfl
def catF {α : Type} (xs ys : List α) : Res (List α) := if xs.length + ys.length ≤ lim then .ok (xs ++ ys) else .stuck
def catM {α : Type} : Res (List α) → Res (List α) → Res (List α) := Res.bind2 catF
theorem n_cat {m n : Res (List α)} (ha : EvE K fm ta σ G O (rK R) m) (hb : EvE K fm tb σ G O (rK R) n) : EvN K fm (tOp rCat ta tb) σ G O R (catM m n) := fun G1 H1 e k Q q =>
  ha G1 H1 e k _ (Res.wp_mono (Res.wp_bind q) (fun x q u G2 H2 s ru =>
    hb G2 H2 (e.trans s.gg) (k.stp s) _ (Res.wp_mono (Res.wp_bind q) (fun y q v G3 H3 s' rv => by
      obtain ⟨p, vs, e1, h1, r1⟩ := ru
      obtain ⟨p', vs', e2, h2, r2⟩ := rv
      by_cases hl : x.length + y.length ≤ lim
      · rw [catF, if_pos hl] at q
        exact ⟨p, p', vs, vs', e1, e2, (s.trans s').gh _ _ (s'.gg _ _ h1), s'.gh _ _ h2, by rw [Paired.length r1, Paired.length r2, ← lim_eq]; exact hl, fun l hl =>
          q l _ G3 _ ((s.trans s').trans (Stp.grow s'.gh (same_new hl))) (same_back (s.trans s').hh hl) (same_back s'.gh hl) upd_same (paired_app (r1.mono s'.gg) r2)⟩
      · rw [catF, if_neg hl] at q; exact q.elim) fun _ _ z => z)) fun _ _ z => z)
theorem paired_rep {F : α → β → Prop} {xs : List α} {ys : List β} (h : Paired F xs ys) : ∀ k : Nat, Paired F (List.replicate k xs).flatten (List.replicate k ys).flatten
  | 0 => .nil
  | k + 1 => by
    rw [List.replicate_succ, List.replicate_succ, List.flatten_cons, List.flatten_cons]
    exact paired_app h (paired_rep h k)
def repF {α : Type} (xs : List α) (k : Int) : Res (List α) := if decide (-(2 ^ 63) ≤ k) && decide (k < 2 ^ 63) && decide (xs.length * k.toNat ≤ lim) then .ok (List.replicate k.toNat xs).flatten else .stuck
def repM {α : Type} : Res (List α) → Res Int → Res (List α) := Res.bind2 repF
end
end Mw

namespace Mw
open PySem L2
section
variable {α β γ δ : Type} {K : PySem.W.Frag} {fm : Fm} {σ : L2.St} {G G' H : Hp} {O : Own}
variable {te ta tb tc : TE} {R : Rp α} {S : Rp β} {T : Rp γ} {m : Res α} {n : Res β} {t u : TT} {a b c : Res Bool}

/-! ### tests -/
theorem t_val (h : EvE K fm te σ G O rB a) : EvT fm (tB te) σ G O a := fun G1 H1 e k Q q =>
  h G1 H1 e k _ (Res.wp_mono q (fun x q v G2 H2 s r => ⟨x, r, q G2 H2 s⟩) fun _ _ z => z)
theorem t_test (h : EvE K fm te σ G O rB a) : EvT fm (tTest te) σ G O a := t_val h
def andM (a b : Res Bool) : Res Bool := a.bind fun k => if k = true then b else .ok false
def orM (a b : Res Bool) : Res Bool := a.bind fun k => if k = true then .ok true else b
def notM (a : Res Bool) : Res Bool := a.bind fun k => .ok (!k)
@[simp] theorem andM_ok (x : Bool) (b) : andM (.ok x) b = if x = true then b else .ok false := rfl
@[simp] theorem orM_ok (x : Bool) (b) : orM (.ok x) b = if x = true then .ok true else b := rfl
@[simp] theorem notM_ok (x : Bool) : notM (.ok x) = .ok (!x) := rfl
theorem t_and (h1 : EvT fm t σ G O a) (h2 : EvT fm u σ G O b) : EvT fm (tAnd t u) σ G O (andM a b) := fun G1 H1 e k Q q =>
  h1 G1 H1 e k _ (Res.wp_mono (Res.wp_bind q) (fun x q G2 H2 s => by
    cases x with
    | true => exact h2 G2 H2 (e.trans s.gg) (k.stp s) _ (Res.wp_mono q (fun y q G3 H3 s' => q G3 H3 (s.trans s')) fun _ _ z => z)
    | false => exact q G2 H2 s) fun _ _ z => z)
theorem t_or (h1 : EvT fm t σ G O a) (h2 : EvT fm u σ G O b) : EvT fm (tOr t u) σ G O (orM a b) := fun G1 H1 e k Q q =>
  h1 G1 H1 e k _ (Res.wp_mono (Res.wp_bind q) (fun x q G2 H2 s => by
    cases x with
    | false => exact h2 G2 H2 (e.trans s.gg) (k.stp s) _ (Res.wp_mono q (fun y q G3 H3 s' => q G3 H3 (s.trans s')) fun _ _ z => z)
    | true => exact q G2 H2 s) fun _ _ z => z)
theorem t_not (h1 : EvT fm t σ G O a) : EvT fm (tNot t) σ G O (notM a) := fun G1 H1 e k Q q =>
  h1 G1 H1 e k _ (Res.wp_mono (Res.wp_bind q) (fun x q G2 H2 s => q G2 H2 s) fun _ _ z => z)
theorem e_and (h1 : EvE K fm ta σ G O rB a) (h2 : EvE K fm tb σ G O rB b) : EvE K fm (tAndV ta tb) σ G O rB (andM a b) := fun G1 H1 e k Q q =>
  h1 G1 H1 e k _ (Res.wp_mono (Res.wp_bind q) (fun x q v G2 H2 s r => ⟨x, r, by
    cases x with
    | true => exact h2 G2 H2 (e.trans s.gg) (k.stp s) _ (Res.wp_mono q (fun y q v G3 H3 s' r => q v G3 H3 (s.trans s') r) fun _ _ z => z)
    | false => exact q _ G2 H2 s rfl⟩) fun _ _ z => z)
theorem e_or (h1 : EvE K fm ta σ G O rB a) (h2 : EvE K fm tb σ G O rB b) : EvE K fm (tOrV ta tb) σ G O rB (orM a b) := fun G1 H1 e k Q q =>
  h1 G1 H1 e k _ (Res.wp_mono (Res.wp_bind q) (fun x q v G2 H2 s r => ⟨x, r, by
    cases x with
    | false => exact h2 G2 H2 (e.trans s.gg) (k.stp s) _ (Res.wp_mono q (fun y q v G3 H3 s' r => q v G3 H3 (s.trans s') r) fun _ _ z => z)
    | true => exact q _ G2 H2 s rfl⟩) fun _ _ z => z)
theorem e_not (h1 : EvE K fm ta σ G O rB a) : EvE K fm (tNotV ta) σ G O rB (notM a) := fun G1 H1 e k Q q =>
  h1 G1 H1 e k _ (Res.wp_mono (Res.wp_bind q) (fun x q v G2 H2 s r => ⟨x, r, q _ G2 H2 s rfl⟩) fun _ _ z => z)
/-- a test by a value's truth -/
abbrev tTr (K : PySem.W.Frag) (ta : TE) : TT := fun σ H Q => ta σ H fun x H' => ∃ k, TruV K x H' k ∧ Q k H'
def truL {α : Type} (m : Res (List α)) : Res Bool := m.bind fun xs => .ok (!xs.isEmpty)
@[simp] theorem truL_ok {α : Type} (xs : List α) : truL (.ok xs) = .ok (!xs.isEmpty) := rfl
theorem paired_empty {F : α → β → Prop} {xs : List α} {ys : List β} (h : Paired F xs ys) : xs.isEmpty = ys.isEmpty := by cases h <;> rfl
theorem t_truL {m : Res (List α)} (h : EvE K fm te σ G O (rL R) m) : EvT fm (tTr K te) σ G O (truL m) := fun G1 H1 e k Q q =>
  h G1 H1 e k _ (Res.wp_mono (Res.wp_bind q) (fun x q v G2 H2 s ⟨p, vs, ev, hq, r⟩ => by
    subst ev
    exact ⟨_, .inl ⟨vs, same_l s.gh hq, rfl⟩, by rw [paired_empty r]; exact q G2 H2 s⟩) fun _ _ z => z)
def truI (a : Res Int) : Res Bool := a.bind fun i => .ok (i != 0)
theorem t_truI {a : Res Int} (h : EvE K fm te σ G O zI a) : EvT fm (tTr K te) σ G O (truI a) := fun G1 H1 e k Q q =>
  h G1 H1 e k _ (Res.wp_mono (Res.wp_bind q) (fun x q v G2 H2 s r => by
    cases (show v = .int x from r)
    exact ⟨_, rfl, q G2 H2 s⟩) fun _ _ z => z)
theorem e_ifExp {m n : Res α} (h : EvT fm t σ G O c) (h1 : EvE K fm ta σ G O R m) (h2 : EvE K fm tb σ G O R n) : EvE K fm (tIf t ta tb) σ G O R (Res.ite c m n) := fun G1 H1 e k Q q =>
  h G1 H1 e k _ (Res.wp_mono (Res.wp_bind q) (fun x q G2 H2 s => by
    cases x with
    | true => exact h1 G2 H2 (e.trans s.gg) (k.stp s) _ (Res.wp_mono q (fun y q v G3 H3 s' r => q v G3 H3 (s.trans s') r) fun _ _ z => z)
    | false => exact h2 G2 H2 (e.trans s.gg) (k.stp s) _ (Res.wp_mono q (fun y q v G3 H3 s' r => q v G3 H3 (s.trans s') r) fun _ _ z => z)) fun _ _ z => z)
/-- a < b < c of ints -/
def chainM (p p' : Int → Int → Bool) (a b c : Res Int) : Res Bool := a.bind fun x => b.bind fun y => if p x y = true then c.bind fun z => .ok (p' y z) else .ok false
theorem e_chain {p p' : Int → Int → Bool} {a b c : Res Int} (ha : EvE K fm ta σ G O zI a) (hb : EvE K fm tb σ G O zI b) (hc : EvE K fm tc σ G O zI c) :
    EvE K fm (tChain (L2.rI0 fun i j => .bl (p i j)) (L2.rI0 fun i j => .bl (p' i j)) ta tb tc) σ G O rB (chainM p p' a b c) := fun G1 H1 e k Q q =>
  ha G1 H1 e k _ (Res.wp_mono (Res.wp_bind q) (fun x q v G2 H2 s r =>
    hb G2 H2 (e.trans s.gg) (k.stp s) _ (Res.wp_mono (Res.wp_bind q) (fun y q w G3 H3 s' r' => ⟨x, y, r, r', p x y, rfl, by
      cases ep : p x y with
      | true =>
        rw [ep, if_pos rfl] at q
        refine iteT ?_
        exact hc G3 H3 ((e.trans s.gg).trans s'.gg) ((k.stp s).stp s') _ (Res.wp_mono (Res.wp_bind q) (fun z q w' G4 H4 s'' r'' => ⟨y, z, r', r'', q _ G4 H4 ((s.trans s').trans s'') rfl⟩) fun _ _ z => z)
      | false =>
        rw [ep, if_neg Bool.false_ne_true] at q
        refine iteF ?_
        exact q _ G3 H3 (s.trans s') rfl⟩) fun _ _ z => z)) fun _ _ z => z)

/-! ### what a loop walks -/
structure ItOk (K : PySem.W.Frag) (G : Hp) (Oi : Own) (R : Rp α) (J : It) (xs : List α) : Prop where
  go : ∀ i G1 H, Same G G1 → Same G1 H → (∀ p ∈ Oi, H p.1 = some p.2) → i < xs.length → J.go i H
  stop : ∀ G1 H, Same G G1 → Same G1 H → (∀ p ∈ Oi, H p.1 = some p.2) → J.stop xs.length H
  yld : ∀ i G1 H v H', Same G G1 → Same G1 H → (∀ p ∈ Oi, H p.1 = some p.2) → i < xs.length → J.yld i H v H' → ∃ x G', xs[i]? = some x ∧ Stp G1 H G' H' ∧ R.r K G' v x
def EvI (K : PySem.W.Frag) (fm : Fm) (ti : TI) (σ : L2.St) (G : Hp) (O : Own) (Oi : Own) (R : Rp α) (m : Res (List α)) : Prop :=
  ∀ G1 H1, Same G G1 → Kn fm G1 O H1 → ∀ Q : It → Hp → Prop, m.wp (fun xs => ∀ J G2 H2, Stp G1 H1 G2 H2 → ItOk K G2 Oi R J xs → Q J H2) fm.xw → ti σ H1 Q
theorem paired_lt {F : α → β → Prop} {xs : List α} {ys : List β} (h : Paired F xs ys) {i : Nat} (hi : i < ys.length) : ∃ x, xs[i]? = some x := by
  have e := Paired.length h
  exact ⟨xs[i]'(by omega), by simp⟩
theorem itl_ok {p : Addr} {vs : List V} {xs : List α} (h : SqL K G p vs) (r : RLs R K G vs xs) : ItOk K G [] R (Itl K p) xs where
  go := fun i G1 H a b _ hi => let ⟨x, hx⟩ := paired_lt r hi; ⟨vs, x, same_l (a.trans b) h, hx⟩
  stop := fun G1 H a b _ => ⟨vs, same_l (a.trans b) h, Nat.le_of_eq (Paired.length r)⟩
  yld := fun i G1 H v H' a b _ hi y => by
    obtain ⟨e, y⟩ := y
    subst e
    obtain ⟨x, hx, rx⟩ := paired_get r (y vs (same_l (a.trans b) h))
    exact ⟨x, G1, hx, Stp.refl b, R.mono a rx⟩
theorem itt_ok {p : Addr} {vs : List V} {xs : List α} (h : SqT K G p vs) (r : RLs R K G vs xs) : ItOk K G [] R (Itt K p) xs where
  go := fun i G1 H a b _ hi => let ⟨x, hx⟩ := paired_lt r hi; ⟨vs, x, same_t (a.trans b) h, hx⟩
  stop := fun G1 H a b _ => ⟨vs, same_t (a.trans b) h, Nat.le_of_eq (Paired.length r)⟩
  yld := fun i G1 H v H' a b _ hi y => by
    obtain ⟨e, y⟩ := y
    subst e
    obtain ⟨x, hx, rx⟩ := paired_get r (y vs (same_t (a.trans b) h))
    exact ⟨x, G1, hx, Stp.refl b, R.mono a rx⟩
theorem i_list {m : Res (List α)} (h : EvE K fm te σ G O (rL R) m) : EvI K fm (iList K te) σ G O [] R m := fun G1 H1 e k Q q =>
  h G1 H1 e k _ (Res.wp_mono q (fun xs f v G2 H2 s ⟨p, vs, ev, hq, r⟩ => ⟨p, ev, ⟨vs, same_l s.gh hq⟩, f _ G2 H2 s (itl_ok hq r)⟩) fun _ _ z => z)
theorem i_tup {m : Res (List α)} (h : EvE K fm te σ G O (rT R) m) : EvI K fm (iTup K te) σ G O [] R m := fun G1 H1 e k Q q =>
  h G1 H1 e k _ (Res.wp_mono q (fun xs f v G2 H2 s ⟨p, vs, ev, hq, r⟩ => ⟨p, ev, ⟨vs, same_t s.gh hq⟩, f _ G2 H2 s (itt_ok hq r)⟩) fun _ _ z => z)
/-- lo, lo + 1, .. -/
def rgL (lo : Int) (n : Nat) : List Int := (List.range n).map fun i => lo + (i : Nat)
theorem rgL_length (lo : Int) (n : Nat) : (rgL lo n).length = n := by simp [rgL]
theorem rgL_get (lo : Int) {n i : Nat} (h : i < n) : (rgL lo n)[i]? = some (lo + (i : Nat)) := by simp [rgL, h]
theorem itr_ok (lo : Int) (n : Nat) : ItOk K G [] zI (Itr lo n) (rgL lo n) where
  go := fun i G1 H a b _ hi => by rw [rgL_length] at hi; exact hi
  stop := fun G1 H a b _ => by rw [rgL_length]; exact Nat.le_refl n
  yld := fun i G1 H v H' a b _ hi y => by
    rw [rgL_length] at hi
    obtain ⟨e, y⟩ := y
    subst e
    exact ⟨_, G1, rgL_get lo hi, Stp.refl b, y⟩
def inR (j : Int) : Bool := decide (-(2 ^ 62) ≤ j) && decide (j < 2 ^ 62)
def rng1M (a : Res Int) : Res (List Int) := a.bind fun j => if inR j = true then .ok (rgL 0 j.toNat) else .stuck
def rng2M (a b : Res Int) : Res (List Int) := a.bind fun i => b.bind fun j => if (inR i && inR j) = true then .ok (rgL i (j - i).toNat) else .stuck
theorem i_rng1 {a : Res Int} (h : EvE K fm te σ G O zI a) : EvI K fm (iRng1 (tCons te tNil)) σ G O [] zI (rng1M a) := fun G1 H1 e k Q q =>
  h G1 H1 e k _ (Res.wp_mono (Res.wp_bind q) (fun j q v G2 H2 s r => by
    cases (show v = .int j from r)
    cases hj : inR j with
    | false => rw [hj] at q; exact q.elim
    | true =>
      rw [hj, if_pos rfl] at q
      simp only [inR, Bool.and_eq_true, decide_eq_true_eq] at hj
      exact ⟨j, rfl, hj.1, hj.2, q _ G2 H2 s (itr_ok 0 _)⟩) fun _ _ z => z)
theorem i_rng2 {a b : Res Int} (h : EvE K fm ta σ G O zI a) (h' : EvE K fm tb σ G O zI b) : EvI K fm (iRng2 (tCons ta (tCons tb tNil))) σ G O [] zI (rng2M a b) := fun G1 H1 e k Q q =>
  h G1 H1 e k _ (Res.wp_mono (Res.wp_bind q) (fun i q v G2 H2 s r =>
    h' G2 H2 (e.trans s.gg) (k.stp s) _ (Res.wp_mono (Res.wp_bind q) (fun j q w G3 H3 s' r' => by
      cases (show v = .int i from r)
      cases (show w = .int j from r')
      cases hj : (inR i && inR j) with
      | false => rw [hj] at q; exact q.elim
      | true =>
        rw [hj, if_pos rfl] at q
        simp only [inR, Bool.and_eq_true, decide_eq_true_eq] at hj
        exact ⟨i, j, rfl, ⟨hj.1.1, hj.1.2, hj.2.1, hj.2.2⟩, q _ G3 H3 (s.trans s') (itr_ok i _)⟩) fun _ _ z => z)) fun _ _ z => z)
/-- enumerate(list) -/
def enumL {α : Type} (xs : List α) : List (Int × α) := xs.mapIdx fun i x => ((i : Nat), x)
theorem enumL_length (xs : List α) : (enumL xs).length = xs.length := by simp [enumL]
theorem ite_okE {p : Addr} {vs : List V} {xs : List α} (h : SqL K G p vs) (r : RLs R K G vs xs) : ItOk K G [] (rP2 zI R) (Ite K p) (enumL xs) where
  go := fun i G1 H a b _ hi => by
    rw [enumL_length] at hi
    obtain ⟨x, hx⟩ := paired_lt r hi
    exact ⟨vs, x, same_l (a.trans b) h, hx⟩
  stop := fun G1 H a b _ => ⟨vs, same_l (a.trans b) h, by rw [enumL_length]; exact Nat.le_of_eq (Paired.length r)⟩
  yld := fun i G1 H v H' a b _ hi y => by
    obtain ⟨p', x, ev, hp, eH, y⟩ := y
    subst ev eH
    obtain ⟨z, hz, rz⟩ := paired_get r (y vs (same_l (a.trans b) h))
    refine ⟨((i : Int), z), _, by simp [enumL, List.getElem?_mapIdx, hz], Stp.new b hp, p', _, rfl, .inl (.inl upd_same), _, _, rfl, rfl, _, rfl, R.mono (a.trans (same_new (same_back b hp))) rz⟩
def enumM {α : Type} (m : Res (List α)) : Res (List (Int × α)) := m.bind fun xs => .ok (enumL xs)
@[simp] theorem enumM_ok {α : Type} (xs : List α) : enumM (.ok xs) = .ok (enumL xs) := rfl
theorem i_enum {m : Res (List α)} (h : EvE K fm te σ G O (rL R) m) : EvI K fm (iEnum K (tCons te tNil)) σ G O [] (rP2 zI R) (enumM m) := fun G1 H1 e k Q q =>
  h G1 H1 e k _ (Res.wp_mono (Res.wp_bind q) (fun xs f v G2 H2 s ⟨p, vs, ev, hq, r⟩ => by
    subst ev
    exact ⟨p, vs, rfl, same_l s.gh hq, f _ G2 H2 s (ite_okE hq r)⟩) fun _ _ z => z)

/-! ### targets -/
def setL (σ : L2.St) : List Nat → List V → L2.St
  | i :: is, v :: vs => setL (σ.set i (some v)) is vs
  | _, _ => σ
def Tgt (K : PySem.W.Frag) (g : TG) (R : Rp α) (S : Rps α) (is : List Nat) : Prop := ∀ G H v x σ (Q : L2.St → Hp → Prop), Same G H → R.r K G v x → (∀ vs, S.r K G vs x → Q (setL σ is vs) H) → g v σ H Q
theorem tg_name {i : Nat} : Tgt K (gName i) R (rs1 R) [i] := fun G H v x σ Q e r q => q [v] ⟨v, rfl, r⟩
theorem tg_tup2 {i j : Nat} {R : Rp α} {S : Rp β} : Tgt K (gTup K 2 (gCons (gName i) (gCons (gName j) gNil))) (rP2 R S) (rsC R (rs1 S)) [i, j] := fun G H v x σ Q e r q => by
  obtain ⟨p, vs, ev, hq, rs⟩ := r
  obtain ⟨v1, r1, e1, h1, v2, e2, h2⟩ := id rs
  subst ev e1 e2
  exact ⟨p, _, rfl, same_t e hq, rfl, v1, _, rfl, v2, _, rfl, rfl, q _ rs⟩
theorem tg_tup3 {i j k : Nat} {R : Rp α} {S : Rp β} {T : Rp γ} : Tgt K (gTup K 3 (gCons (gName i) (gCons (gName j) (gCons (gName k) gNil)))) (rP3 R S T) (rsC R (rsC S (rs1 T))) [i, j, k] := fun G H v x σ Q e r q => by
  obtain ⟨p, vs, ev, hq, rs⟩ := r
  obtain ⟨v1, r1, e1, h1, v2, r2, e2, h2, v3, e3, h3⟩ := id rs
  subst ev e1 e2 e3
  exact ⟨p, _, rfl, same_t e hq, rfl, v1, _, rfl, v2, _, rfl, v3, _, rfl, rfl, q _ rs⟩

/-! ### list comprehensions -/
def lcM {α β : Type} (p : α → Res Bool) (f : α → Res β) : List α → Res (List β)
  | [] => .ok []
  | x :: xs => (p x).nox.bind fun b => if b = true then (f x).nox.bind fun y => (lcM p f xs).bind fun ys => .ok (y :: ys) else lcM p f xs
def lcB {α β : Type} (p : α → Res Bool) (f : α → Res β) (m : Res (List α)) : Res (List β) := m.bind fun xs => if xs.length < lim then lcM p f xs else .stuck
theorem wipe_get (τ : L2.St) (ws : List Nat) (j : Nat) : (wipe τ ws)[j]? = if j ∈ ws then (τ[j]?).map fun _ => none else τ[j]? := by
  induction ws with
  | nil => simp [wipe]
  | cons w ws ih =>
    show ((wipe τ ws).set w none)[j]? = _
    by_cases e : w = j
    · subst e
      rw [if_pos List.mem_cons_self]
      by_cases hl : w < τ.length
      · rw [List.getElem?_set_self (by rw [wipe_length]; exact hl)]
        simp [hl]
      · rw [List.getElem?_eq_none (by rw [List.length_set, wipe_length]; omega), List.getElem?_eq_none (by omega)]
        rfl
    · rw [List.getElem?_set_ne e, ih]
      by_cases hj : j ∈ ws
      · rw [if_pos hj, if_pos (List.mem_cons_of_mem _ hj)]
      · rw [if_neg hj, if_neg (by
          intro q
          rcases List.mem_cons.mp q with q | q
          · exact e q.symm
          · exact hj q)]
theorem wipe_set {σ : L2.St} {v : Option V} {i : Nat} {ws : List Nat} (h : i ∈ ws) : wipe (σ.set i v) ws = wipe σ ws := by
  apply List.ext_getElem?
  intro j
  rw [wipe_get, wipe_get]
  by_cases hj : j ∈ ws
  · rw [if_pos hj, if_pos hj]
    by_cases e : i = j
    · subst e
      by_cases hl : i < σ.length
      · rw [List.getElem?_set_self hl]; simp [hl]
      · rw [List.getElem?_eq_none (by rw [List.length_set]; omega), List.getElem?_eq_none (by omega)]
    · rw [List.getElem?_set_ne e]
  · rw [if_neg hj, if_neg hj, List.getElem?_set_ne]
    intro e; subst e; exact hj h
theorem wipe_wipe {σ : L2.St} {ws vs : List Nat} (h : ∀ i ∈ vs, i ∈ ws) : wipe (wipe σ vs) ws = wipe σ ws := by
  apply List.ext_getElem?
  intro j
  rw [wipe_get, wipe_get, wipe_get]
  by_cases hj : j ∈ ws
  · rw [if_pos hj, if_pos hj]
    split
    · cases σ[j]? <;> rfl
    · rfl
  · rw [if_neg hj, if_neg hj, if_neg fun q => hj (h j q)]
theorem wipe_setL {ws : List Nat} : ∀ {is : List Nat} {vs : List V} {σ : L2.St}, (∀ i ∈ is, i ∈ ws) → wipe (setL σ is vs) ws = wipe σ ws
  | [], _, _, _ => rfl
  | i :: is, [], _, _ => rfl
  | i :: is, v :: vs, σ, h => by
    show wipe (setL (σ.set i (some v)) is vs) ws = _
    rw [wipe_setL fun j hj => h j (List.mem_cons_of_mem _ hj), wipe_set (h i List.mem_cons_self)]
abbrev Fm.e0 (fm : Fm) : Fm := { fm with E := E0 }
theorem t_yes : EvT fm tYes σ G O (.ok true) := fun G1 H1 e k Q q => q G1 H1 (Stp.refl k.gh)
theorem Kn.e0 (k : Kn fm G O H) : Kn fm.e0 G O H := ⟨k.fr, k.gh, k.own⟩
theorem n_lc {Oi : Own} {ti : TI} {g : TG} {tt : TT} {ws is : List Nat} {m : Res (List α)} {Ss : Rps α} {p : α → Res Bool} {f : α → Res β}
    (hi : EvI K fm ti σ G O Oi R m) (hO : ∀ p ∈ Oi, p ∈ O) (tg : Tgt K g R Ss is) (hw : ∀ i ∈ is, i ∈ ws)
    (hb : ∀ x vs G', Same G G' → Ss.r K G' vs x → EvT fm.e0 tt (setL (wipe σ ws) is vs) G' O (p x) ∧ EvE K fm.e0 te (setL (wipe σ ws) is vs) G' O S (f x)) :
    EvN K fm (tLc ti g tt te ws) σ G O S (lcB p f m) := fun G1 H1 e k Q q =>
  hi G1 H1 e k _ (Res.wp_mono (Res.wp_bind q) (fun xs q J G2 H2 s it Dl hD => by
    by_cases hl : xs.length < lim
    · rw [if_pos hl] at q
      have kD : Kn fm G2 O (upd H2 Dl (.lst [])) := (k.stp s).stp (Stp.grow s.gh (same_new hD))
      have gD : G2 Dl = none := same_back s.gh hD
      refine ⟨fun i mm H => mm = xs.length - i ∧ i ≤ xs.length ∧ ∃ (G3 : Hp) (acc : List V) (ys : List β), Same G2 G3 ∧ Stp G2 H2 G3 H ∧ Kn fm G3 O H ∧ G3 Dl = none ∧ H Dl = some (.lst acc) ∧ acc.length ≤ i ∧ RLs S K G3 acc ys ∧
          (lcM p f (xs.drop i)).wp (fun zs => ∀ (q : Addr) vs G4 H4, Stp G1 H1 G4 H4 → H1 q = none → G4 q = none → H4 q = some (.lst vs) → RLs S K G4 vs (ys ++ zs) → Q (.ref q) H4) fm.xw,
        ⟨xs.length, by simp, Nat.zero_le _, G2, [], [], Same.refl _, Stp.grow s.gh (same_new hD), kD, gD, upd_same, Nat.le_refl _, .nil, q⟩, ?_⟩
      rintro i mm H ⟨rfl, hle, G3, acc, ys, g3, s3, k3, d3, hd3, hacc, racc, q3⟩
      by_cases hlt : i < xs.length
      · refine .inr ⟨it.go i G3 H g3 k3.gh (fun p hp => k3.own p (hO p hp)) hlt, _, fun H' z => ⟨xs.length - (i + 1), by omega, z⟩, fun v H' y => ?_⟩
        obtain ⟨x, G4, hx, s4, rx⟩ := it.yld i G3 H v H' g3 k3.gh (fun p hp => k3.own p (hO p hp)) hlt y
        have hdrop : xs.drop i = x :: xs.drop (i + 1) := by
          obtain ⟨h1, h2⟩ := List.getElem?_eq_some_iff.mp hx
          rw [List.drop_eq_getElem_cons h1, h2]
        rw [hdrop] at q3
        refine tg G4 H' v x _ _ s4.gh rx fun vs rvs => ⟨by rw [wipe_setL hw, wipe_wipe fun i h => h], ?_⟩
        obtain ⟨ht, he⟩ := hb x vs G4 ((e.trans s.gg).trans (g3.trans s4.gg)) rvs
        have k4 : Kn fm G4 O H' := k3.stp s4
        have hd4 : H' Dl = some (.lst acc) := s4.hh _ _ hd3
        have gd4 : G4 Dl = none := by rw [s4.old Dl _ hd3]; exact d3
        refine ht G4 H' (Same.refl _) k4.e0 _ (Res.wp_mono (Res.wp_nox (Res.wp_bind q3)) (fun b q5 G5 H5 s5 => ?_) fun _ _ z => z)
        have hd5 : H5 Dl = some (.lst acc) := s5.hh _ _ hd4
        have gd5 : G5 Dl = none := by rw [s5.old Dl _ hd4]; exact gd4
        cases b with
        | true =>
          refine iteT ?_
          rw [if_pos rfl] at q5
          refine he G5 H5 s5.gg (k4.stp s5).e0 _ (Res.wp_mono (Res.wp_nox (Res.wp_bind q5)) (fun y q6 v' G6 H6 s6 r6 => ?_) fun _ _ z => z)
          have hd6 : H6 Dl = some (.lst acc) := s6.hh _ _ hd5
          have gd6 : G6 Dl = none := by rw [s6.old Dl _ hd5]; exact gd5
          have sAll : Stp G2 H2 G6 H6 := s3.trans ((s4.trans s5).trans s6)
          refine ⟨acc, hd6, by rw [← lim_eq]; omega, rfl, hlt, G6, acc ++ [v'], ys ++ [y], g3.trans ((s4.gg.trans s5.gg).trans s6.gg), ?_, ?_, gd6, upd_same, by rw [List.length_append, List.length_singleton]; omega, paired_app (racc.mono ((s4.gg.trans s5.gg).trans s6.gg)) (.cons r6 .nil), ?_⟩
          · exact ⟨same_mut sAll.hh hD, sAll.gg, same_mut sAll.gh gd6, sAll.old⟩
          · have k6 := (k4.stp s5).stp s6
            refine ⟨fun b o h => ?_, same_mut k6.gh gd6, fun p hp => ?_⟩
            · have := k6.fr b o h
              rw [upd_ne]
              · exact this
              · intro eb; subst eb
                have z := (k.stp s).fr _ _ h
                rw [hD] at z; cases z
            · rw [upd_ne]
              · exact k6.own p hp
              · intro eb
                have z := (k.stp s).own p hp
                rw [eb, hD] at z; cases z
          · exact Res.wp_mono (Res.wp_bind q6) (fun zs q7 qa vs' G7 H7 a b c d r => q7 qa vs' G7 H7 a b c d (by rw [List.append_assoc] at r; exact r)) fun _ _ z => z
        | false =>
          refine iteF ?_
          rw [if_neg Bool.false_ne_true] at q5
          exact ⟨rfl, hlt, G5, acc, ys, g3.trans (s4.gg.trans s5.gg), s3.trans (s4.trans s5), k4.stp s5, gd5, hd5, by omega, racc.mono (s4.gg.trans s5.gg), q5⟩
      · have ei : i = xs.length := by omega
        subst ei
        rw [List.drop_length] at q3
        exact .inl ⟨it.stop G3 H g3 k3.gh (fun p hp => k3.own p (hO p hp)), q3 Dl acc G3 H (s.trans s3) (same_back s.hh hD) d3 hd3 (by rw [List.append_nil]; exact racc)⟩
    · rw [if_neg hl] at q; exact q.elim) fun _ _ z => z)
end
end Mw

namespace Mw
open PySem L2
/-- the state of a def's body: what it began with, the ghost, its own cells -/
structure Hs (fm : Fm) (G : Hp) (O : Own) (H : Hp) : Prop where
  fr : Same fm.F H
  g0 : Same fm.G0 G
  gh : Same G H
  old : ∀ b o, fm.F b = some o → G b = fm.G0 b
  own : ∀ p ∈ O, H p.1 = some p.2 ∧ G p.1 = none ∧ fm.F p.1 = none
  nd : (O.map (·.1)).Nodup
section
variable {α β γ δ ρ : Type} {K : PySem.W.Frag} {fm : Fm} {σ : L2.St} {G G' H H' : Hp} {O : Own}
theorem Hs.kn (h : Hs fm G O H) : Kn fm G O H := ⟨h.fr, h.gh, fun p hp => (h.own p hp).1⟩
theorem Hs.start {cl : Nat → Addr} {E : XK} (g : Same G H) : Hs ⟨H, G, E, cl⟩ G [] H := ⟨Same.refl _, Same.refl _, g, fun _ _ _ => rfl, (fun p hp => by cases hp), List.nodup_nil⟩
theorem Hs.stp (h : Hs fm G O H) (s : Stp G H G' H') : Hs fm G' O H' :=
  ⟨h.fr.trans s.hh, h.g0.trans s.gg, s.gh, fun b o e => (s.old b o (h.fr b o e)).trans (h.old b o e), fun p hp => by
    obtain ⟨a, b, c⟩ := h.own p hp
    exact ⟨s.hh _ _ a, (s.old _ _ a).trans b, c⟩, h.nd⟩
theorem Hs.fin (h : Hs fm G O H) : Stp fm.G0 fm.F G H := ⟨h.fr, h.g0, h.gh, h.old⟩
/-- a new cell of one's own -/
theorem Hs.new {p : Addr} {o : HO} (h : Hs fm G O H) (s : Stp G H G' H') (hp : H p = none) (gp : G' p = none) (e : H' p = some o) : Hs fm G' ((p, o) :: O) H' := by
  have h' := h.stp s
  refine ⟨h'.fr, h'.g0, h'.gh, h'.old, fun q hq => ?_, ?_⟩
  · rcases List.mem_cons.mp hq with rfl | hq
    · exact ⟨e, gp, same_back h.fr hp⟩
    · exact h'.own q hq
  · rw [List.map_cons, List.nodup_cons]
    refine ⟨fun hm => ?_, h.nd⟩
    obtain ⟨q, hq, e'⟩ := List.mem_map.mp hm
    have := (h.own q hq).1
    rw [e', hp] at this
    cases this
theorem nodup_at {O : Own} (h : (O.map (·.1)).Nodup) {i j : Nat} {p q : Addr × HO} (a : O[i]? = some p) (b : O[j]? = some q) (e : p.1 = q.1) : i = j := by
  have a' : (O.map (·.1))[i]? = some p.1 := by rw [List.getElem?_map, a]; rfl
  have b' : (O.map (·.1))[j]? = some p.1 := by rw [List.getElem?_map, b, e]; rfl
  obtain ⟨h1, e1⟩ := List.getElem?_eq_some_iff.mp a'
  obtain ⟨h2, e2⟩ := List.getElem?_eq_some_iff.mp b'
  exact (List.getElem_inj h).mp (e1.trans e2.symm)
/-- a cell of one's own is written -/
theorem Hs.set (h : Hs fm G O H) (i : Nat) {a : Addr} {o o' : HO} (hi : O[i]? = some (a, o)) : Hs fm G (O.set i (a, o')) (upd H a o') := by
  obtain ⟨ha, ga, fa⟩ := h.own (a, o) (List.mem_of_getElem? hi)
  refine ⟨same_mut h.fr fa, h.g0, same_mut h.gh ga, h.old, fun q hq => ?_, ?_⟩
  · obtain ⟨j, hj⟩ := List.mem_iff_getElem?.mp hq
    by_cases e : i = j
    · subst e
      rw [List.getElem?_set_self (List.getElem?_eq_some_iff.mp hi).1] at hj
      cases hj
      exact ⟨upd_same, ga, fa⟩
    · rw [List.getElem?_set_ne e] at hj
      obtain ⟨hq1, hq2, hq3⟩ := h.own q (List.mem_of_getElem? hj)
      refine ⟨?_, hq2, hq3⟩
      rw [upd_ne]
      · exact hq1
      · intro z
        exact e (nodup_at h.nd hi hj z.symm)
  · rw [List.map_set]
    have : (O.map (·.1)).set i a = O.map (·.1) := by
      apply List.ext_getElem?
      intro j
      by_cases e : i = j
      · subst e
        rw [List.getElem?_set_self (by rw [List.length_map]; exact (List.getElem?_eq_some_iff.mp hi).1), List.getElem?_map, hi]; rfl
      · rw [List.getElem?_set_ne e]
    rw [this]; exact h.nd
theorem Hs.at (h : Hs fm G O H) (i : Nat) {a : Addr} {o : HO} (hi : O[i]? = some (a, o)) : H a = some o ∧ G a = none ∧ fm.F a = none := h.own (a, o) (List.mem_of_getElem? hi)
/-- a cell of one's own is given away -/
theorem Hs.give (h : Hs fm G O H) (i : Nat) {a : Addr} {o : HO} (hi : O[i]? = some (a, o)) : Hs fm (upd G a o) (O.eraseIdx i) H := by
  obtain ⟨ha, ga, fa⟩ := h.at i hi
  refine ⟨h.fr, h.g0.trans (same_new ga), same_updG h.gh ha, fun b o e => ?_, fun q hq => ?_, ?_⟩
  · rw [upd_ne (ne_of_none e fa)]; exact h.old b o e
  · obtain ⟨j, hj⟩ := List.mem_iff_getElem?.mp hq
    have hj' : ∃ k, k ≠ i ∧ O[k]? = some q := by
      rw [List.getElem?_eraseIdx] at hj
      split at hj
      · exact ⟨j, by omega, hj⟩
      · exact ⟨j + 1, by omega, hj⟩
    obtain ⟨k, hk, hq'⟩ := hj'
    obtain ⟨hq1, hq2, hq3⟩ := h.own q (List.mem_of_getElem? hq')
    refine ⟨hq1, ?_, hq3⟩
    rw [upd_ne]
    · exact hq2
    · intro z
      exact hk (nodup_at h.nd hq' hi z)
  · exact h.nd.sublist ((List.eraseIdx_sublist _ _).map _)
/-- a cell is forgotten -/
theorem Hs.drop (h : Hs fm G O H) (i : Nat) : Hs fm G (O.eraseIdx i) H :=
  ⟨h.fr, h.g0, h.gh, h.old, fun q hq => h.own q ((List.eraseIdx_sublist O i).subset hq), h.nd.sublist ((List.eraseIdx_sublist _ _).map _)⟩

/-! ### lending: what does not keep the cell may look at it -/
variable {te ta tb tc : TE} {R : Rp α} {S : Rp β} {T : Rp γ} {m : Res α} {n : Res β}
theorem lend_kn {l : Addr} {o : HO} {G1 H1 : Hp} (k : Kn fm G1 O H1) (hl : (l, o) ∈ O) : Kn fm (upd G1 l o) O H1 := ⟨k.fr, same_updG k.gh (k.own _ hl), k.own⟩
theorem lend_same {l : Addr} {o : HO} {G G1 : Hp} (e : Same G G1) : Same (upd G l o) (upd G1 l o) := same_upd e
theorem t_lend {t : TT} {l : Addr} {o : HO} {m : Res Bool} (hl : (l, o) ∈ O) (h : EvT fm t σ (upd G l o) O m) : EvT fm t σ G O m := fun G1 H1 e k Q q =>
  h (upd G1 l o) H1 (same_upd e) (lend_kn k hl) _ (Res.wp_mono q (fun x f G2 H2 s => f G1 H2 (Stp.grow k.gh s.hh)) fun _ _ z => z)
theorem e_lend {l : Addr} {o : HO} (sc : Sc R) (hl : (l, o) ∈ O) (h : EvE K fm te σ (upd G l o) O R m) : EvE K fm te σ G O R m := fun G1 H1 e k Q q =>
  h (upd G1 l o) H1 (same_upd e) (lend_kn k hl) _ (Res.wp_mono q (fun x f v G2 H2 s r => f v G1 H2 (Stp.grow k.gh s.hh) (sc _ _ _ _ _ r)) fun _ _ z => z)
theorem n_lend {l : Addr} {o : HO} {m : Res (List α)} (sc : Sc R) (hl : (l, o) ∈ O) (h : EvN K fm te σ (upd G l o) O R m) : EvN K fm te σ G O R m := fun G1 H1 e k Q q =>
  h (upd G1 l o) H1 (same_upd e) (lend_kn k hl) _ (Res.wp_mono q (fun x f p vs G2 H2 s hp gp h2 r => f p vs G1 H2 (Stp.grow k.gh s.hh) hp (same_back k.gh hp) h2 (Paired.mapP r fun _ _ q => sc _ _ _ _ _ q)) fun _ _ z => z)
/-- a cell of one's own, as a value that is lent -/
theorem e_own {i : Nat} {l : Addr} {vs : List V} {xs : List α} (h : σ[i]? = some (some (.ref l))) (hG : G l = some (.lst vs)) (r : RLs R K G vs xs) : EvE K fm (tVar i) σ G O (rK R) (.ok xs) := e_var h ⟨l, vs, rfl, hG, r⟩
/-- what stands at a cell of one's own: its length, its items -/
theorem e_lenO {i : Nat} {l : Addr} {vs : List V} {xs : List α} (h : σ[i]? = some (some (.ref l))) (hl : (l, HO.lst vs) ∈ O) (r : RLs R K G vs xs) : EvE K fm (tCB (rLen K) (tCons (tVar i) tNil)) σ G O zI (lenM (.ok xs)) := fun G1 H1 e k Q q =>
  ⟨_, h, _, xs.length, rfl, .inl ⟨vs, SqL.of (k.own _ hl), (Paired.length r).symm⟩, q _ G1 H1 (Stp.refl k.gh) rfl⟩
theorem e_ixO {i : Nat} {l : Addr} {vs : List V} {xs : List α} {n : Res Int} (h : σ[i]? = some (some (.ref l))) (hl : (l, HO.lst vs) ∈ O) (r : RLs R K G vs xs) (hb : EvE K fm tb σ G O zI n) : EvE K fm (tOp (rIxL K) (tVar i) tb) σ G O R (idxM (.ok xs) n) := fun G1 H1 e k Q q =>
  ⟨_, h, hb G1 H1 e k _ (Res.wp_mono (Res.wp_bind (m := n) (f := fun j => optM (atI xs j)) q) (fun j q v G2 H2 s rv => by
    cases (show v = .int j from rv)
    cases ea : atI xs j with
    | none => rw [ea] at q; exact q.elim
    | some y =>
      rw [ea] at q
      obtain ⟨w, ew, rw'⟩ := paired_at r ea
      exact ⟨l, vs, j, w, rfl, rfl, SqL.of ((k.stp s).own _ hl), ew, q w G2 H2 s (R.mono (e.trans s.gg) rw')⟩) fun _ _ z => z)⟩

/-! ### statements -/
variable {D : Ends} {tr tt tu tw : TS} {ρ : Type} {Rρ : Rp ρ} {Q : ρ → Prop}
theorem s_asg {g : TG} {Ss : Rps α} {is : List Nat} {mk : α → Res ρ} (tg : Tgt K g R Ss is) (he : EvE K fm te σ G O R m) (hs : Hs fm G O H) (hm : (m.bind mk).wp Q fm.xw)
    (k : ∀ x vs G' H', Same G G' → Hs fm G' O H' → Ss.r K G' vs x → (mk x).wp Q fm.xw → tr D (setL σ is vs) H') : tSeq (tAsg te g) tr D σ H :=
  he G H (Same.refl _) hs.kn _ (Res.wp_mono (Res.wp_bind hm) (fun x q v G2 H2 s r => tg G2 H2 v x σ _ s.gh r fun vs rv => k x vs G2 H2 s.gg (hs.stp s) rv q) fun _ _ z => z)
/-- a new list of one's own -/
theorem s_asgN {i : Nat} {m : Res (List α)} {mk : List α → Res ρ} (he : EvN K fm te σ G O R m) (hs : Hs fm G O H) (hm : (m.bind mk).wp Q fm.xw)
    (k : ∀ xs p vs G' H', Same G G' → Hs fm G' ((p, .lst vs) :: O) H' → RLs R K G' vs xs → (mk xs).wp Q fm.xw → tr D (σ.set i (some (.ref p))) H') : tSeq (tAsg te (gName i)) tr D σ H :=
  he G H (Same.refl _) hs.kn _ (Res.wp_mono (Res.wp_bind hm) (fun xs q p vs G2 H2 s hp gp hl r => k xs p vs G2 H2 s.gg (hs.new s hp gp hl) r q) fun _ _ z => z)
theorem s_aug {i : Nat} {f : Int → Int → Int} {x : Int} {m : Res Int} {mk : Int → Res ρ} (hx : σ[i]? = some (some (.int x))) (he : EvE K fm te σ G O zI m) (hs : Hs fm G O H) (hm : (m.bind fun y => mk (f x y)).wp Q fm.xw)
    (k : ∀ y G' H', Same G G' → Hs fm G' O H' → (mk (f x y)).wp Q fm.xw → tr D (σ.set i (some (.int (f x y)))) H') : tSeq (tAug i te (ipI f)) tr D σ H :=
  ⟨.int x, hx, he G H (Same.refl _) hs.kn _ (Res.wp_mono (Res.wp_bind hm) (fun y q v G2 H2 s r => ⟨x, y, rfl, r, k y G2 H2 s.gg (hs.stp s) q⟩) fun _ _ z => z)⟩
/-- a value that is dropped -/
theorem s_drop {mk : α → Res ρ} (he : EvE K fm te σ G O R m) (hs : Hs fm G O H) (hm : (m.bind mk).wp Q fm.xw)
    (k : ∀ x G' H', Same G G' → Hs fm G' O H' → (mk x).wp Q fm.xw → tr D σ H') : tSeq (tDrop te) tr D σ H :=
  he G H (Same.refl _) hs.kn _ (Res.wp_mono (Res.wp_bind hm) (fun x q v G2 H2 s r => k x G2 H2 s.gg (hs.stp s) q) fun _ _ z => z)
theorem s_ret {kr : α → ρ} (he : EvE K fm te σ G O R m) (hs : Hs fm G O H) (hm : (m.bind fun r => .ok (kr r)).wp Q fm.xw)
    (k : ∀ r v G' H', Hs fm G' O H' → R.r K G' v r → Q (kr r) → D.rt v H') : tSeq (tRet te) tr D σ H :=
  he G H (Same.refl _) hs.kn _ (Res.wp_mono (Res.wp_bind hm) (fun x q v G2 H2 s r => k x v G2 H2 (hs.stp s) r q) fun _ _ z => z)
theorem s_if {c : TT} {mc : Res Bool} {a b : Res ρ} (hc : EvT fm c σ G O mc) (hs : Hs fm G O H) (hm : (Res.ite mc a b).wp Q fm.xw)
    (h1 : ∀ G' H', Same G G' → Hs fm G' O H' → a.wp Q fm.xw → tt { D with nx := tr D } σ H') (h2 : ∀ G' H', Same G G' → Hs fm G' O H' → b.wp Q fm.xw → tu { D with nx := tr D } σ H') : tSeq (tIfS c tt tu) tr D σ H :=
  hc G H (Same.refl _) hs.kn _ (Res.wp_mono (Res.wp_bind hm) (fun x q G2 H2 s => by
    cases x with
    | true => exact h1 G2 H2 s.gg (hs.stp s) q
    | false => exact h2 G2 H2 s.gg (hs.stp s) q) fun _ _ z => z)
/-- xs.append(e), xs in slot i, its cell the j-th of one's own -/
theorem s_append {i : Nat} (j : Nat) {l : Addr} {vs : List V} {xs : List α} {m : Res α} {mk : List α → Res ρ} (hx : σ[i]? = some (some (.ref l))) (hj : O[j]? = some (l, .lst vs)) (hr : RLs R K G vs xs) (he : EvE K fm te σ G O R m) (hs : Hs fm G O H)
    (hm : (m.bind fun y => if xs.length < lim then mk (xs ++ [y]) else .stuck).wp Q fm.xw)
    (k : ∀ y v G' H', Same G G' → Hs fm G' (O.set j (l, .lst (vs ++ [v]))) H' → RLs R K G' (vs ++ [v]) (xs ++ [y]) → (mk (xs ++ [y])).wp Q fm.xw → tr D σ H') : tSeq (tDrop (tBM K "list" rAppend (tVar i) (tCons te tNil))) tr D σ H :=
  ⟨_, hx, .inl ⟨rfl, vs, SqL.of (hs.at j hj).1⟩, he G H (Same.refl _) hs.kn _ (Res.wp_mono (Res.wp_bind hm) (fun y q v G2 H2 s r => by
    by_cases hl : xs.length < lim
    · rw [if_pos hl] at q
      exact ⟨l, vs, v, rfl, rfl, s.hh _ _ (hs.at j hj).1, by rw [Paired.length hr, ← lim_eq]; exact hl, k y v G2 _ s.gg ((hs.stp s).set j hj) (paired_app (hr.mono s.gg) (.cons r .nil)) q⟩
    · rw [if_neg hl] at q; exact q.elim) fun _ _ z => z)⟩
/-- xs[i] = e -/
def setF {α : Type} (xs : List α) (i : Int) (y : α) : Res (List α) := match ixN xs.length i with | some j => .ok (xs.set j y) | none => .stuck
theorem s_setL {i : Nat} (j : Nat) {l : Addr} {vs : List V} {xs : List α} {m : Res α} {n : Res Int} {mk : List α → Res ρ} (hx : σ[i]? = some (some (.ref l))) (hj : O[j]? = some (l, .lst vs)) (hr : RLs R K G vs xs) (he : EvE K fm te σ G O R m) (hi : EvE K fm ta σ G O zI n) (hs : Hs fm G O H)
    (hm : (m.bind fun y => n.bind fun z => (setF xs z y).bind mk).wp Q fm.xw)
    (k : ∀ ys ws G' H', Same G G' → Hs fm G' (O.set j (l, .lst ws)) H' → RLs R K G' ws ys → (mk ys).wp Q fm.xw → tr D σ H') : tSeq (tAsg te (gSub (tVar i) ta rSetL)) tr D σ H :=
  he G H (Same.refl _) hs.kn _ (Res.wp_mono (Res.wp_bind hm) (fun y q v G2 H2 s r => ⟨_, hx, hi G2 H2 s.gg (hs.stp s).kn _ (Res.wp_mono (Res.wp_bind q) (fun z q v' G3 H3 s' r' => by
    have ss := s.trans s'
    cases (show v' = .int z from r')
    cases e : ixN xs.length z with
    | none => rw [setF, e] at q; exact q.elim
    | some jj =>
      rw [setF, e] at q
      exact ⟨l, vs, z, jj, rfl, rfl, ss.hh _ _ (hs.at j hj).1, by rw [Paired.length hr]; exact e, k _ _ G3 _ ss.gg ((hs.stp ss).set j hj) (paired_set (R.mono s'.gg r) jj (hr.mono ss.gg)) q⟩) fun _ _ z => z)⟩) fun _ _ z => z)
/-- raise, by the class's number, the exception without a dict -/
theorem s_raise {cl : Addr} {c : Nat} (hs : Hs fm G O H) (hm : (Res.exc c [] : Res ρ).wp Q fm.xw) (e : fm.cl c = cl) : tSeq (fun _ σ H => (fun _ H (Q : XK) => Q (.ref cl) none H : L2.St → Hp → XK → Prop) σ H fun cls d H' => (fun (cls : Value) (d : Option Addr) (_ : L2.St) (H : Hp) => fm.E cls d H) cls d σ H') tr D σ H := by
  show fm.E (.ref cl) none H
  rw [← e]
  exact hm H none hs.fr rfl

/-! ### loops -/
inductive Tn (S ρ : Type) where | nx (s : S) | bk (s : S) | rt (r : ρ)
inductive Lp (S ρ : Type) where | nx (s : S) | rt (r : ρ)
def forB {α S ρ : Type} (f : α → S → Res (Tn S ρ)) : List α → S → Res (Lp S ρ)
  | [], s => .ok (.nx s)
  | x :: xs, s => (f x s).bind fun t => match t with | .nx s' => forB f xs s' | .bk s' => .ok (.nx s') | .rt r => .ok (.rt r)
def forM {α S : Type} (f : α → S → Res S) : List α → S → Res S
  | [], s => .ok s
  | x :: xs, s => (f x s).bind fun s' => forM f xs s'
/-- what a turn's ends are to give -/
structure TEnds {S ρ : Type} (K : PySem.W.Frag) (fm : Fm) (G : Hp) (W : S → L2.St → Hp → Own → Prop) (Rρ : Rp ρ) (Qb : Tn S ρ → Prop) (D : Ends) : Prop where
  nx : ∀ s σ G1 G2 O H, Same G G2 → W s σ G1 O → Same G1 G2 → Hs fm G2 O H → Qb (.nx s) → D.nx σ H
  ct : ∀ s σ G1 G2 O H, Same G G2 → W s σ G1 O → Same G1 G2 → Hs fm G2 O H → Qb (.nx s) → D.ct σ H
  bk : ∀ s σ G1 G2 O H, Same G G2 → W s σ G1 O → Same G1 G2 → Hs fm G2 O H → Qb (.bk s) → D.bk σ H
  rt : ∀ r v G2 O H, Hs fm G2 O H → Rρ.r K G2 v r → Qb (.rt r) → D.rt v H
theorem s_forB {Oi : Own} {S π : Type} {Sr : Type} {Rr : Rp Sr} {ti : TI} {g : TG} {Ss : Rps α} {is : List Nat} {m : Res (List α)} {f : α → S → Res (Tn S Sr)} {mk : Lp S Sr → Res ρ} {s0 : S} (W : S → L2.St → Hp → Own → Prop)
    (hi : EvI K fm ti σ G O Oi R m) (hO : ∀ s σ G O, W s σ G O → ∀ p ∈ Oi, p ∈ O) (tg : Tgt K g R Ss is) (hs : Hs fm G O H) (hm : ((m.bind fun xs => forB f xs s0).bind mk).wp Q fm.xw) (h0 : W s0 σ G O)
    (hb : ∀ x s σ' G1 G' O' H' vs (D' : Ends) (Qb : Tn S Sr → Prop), Same G G' → W s σ' G1 O' → Same G1 G' → Hs fm G' O' H' → Ss.r K G' vs x → TEnds K fm G' W Rr Qb D' → (f x s).wp Qb fm.xw → tw D' (setL σ' is vs) H')
    (hn : ∀ s σ' G1 G' O' H', Same G G' → W s σ' G1 O' → Same G1 G' → Hs fm G' O' H' → (mk (.nx s)).wp Q fm.xw → tr D σ' H')
    (hr : ∀ r v G2 O2 H2, Hs fm G2 O2 H2 → Rr.r K G2 v r → (mk (.rt r)).wp Q fm.xw → D.rt v H2) : tSeq (tFor ti g tw) tr D σ H := by
  refine hi G H (Same.refl _) hs.kn _ (Res.wp_mono (Res.wp_bind (Res.wp_bind hm)) (fun xs q J G2 H2 s it => ?_) fun _ _ z => z)
  refine ⟨fun i mm σ' H' => mm = xs.length - i ∧ i ≤ xs.length ∧ ∃ s' G1 G' O', Same G2 G' ∧ W s' σ' G1 O' ∧ Same G1 G' ∧ Hs fm G' O' H' ∧ ((forB f (xs.drop i) s').bind mk).wp Q fm.xw,
    ⟨xs.length, by simp, Nat.zero_le _, s0, G, G2, O, Same.refl _, h0, s.gg, hs.stp s, by
      rw [List.drop_zero]
      cases hx : forB f xs s0 with
      | ok a => rw [hx] at q; exact q
      | exc c fs => rw [hx] at q; exact q
      | stuck => rw [hx] at q; exact q⟩, ?_⟩
  rintro i mm σ' H' ⟨rfl, hle, s', G1, G', O', g2, w, g1, hs', q'⟩
  by_cases hlt : i < xs.length
  · refine .inr ⟨it.go i G' H' g2 hs'.gh (fun p hp => (hs'.own p (hO _ _ _ _ w p hp)).1) hlt, _, fun σ2 H2 z => ⟨xs.length - (i + 1), by omega, z⟩, fun v H3 y => ?_⟩
    obtain ⟨x, G4, hx, s4, rx⟩ := it.yld i G' H' v H3 g2 hs'.gh (fun p hp => (hs'.own p (hO _ _ _ _ w p hp)).1) hlt y
    have hdrop : xs.drop i = x :: xs.drop (i + 1) := by
      obtain ⟨h1, h2⟩ := List.getElem?_eq_some_iff.mp hx
      rw [List.drop_eq_getElem_cons h1, h2]
    rw [hdrop] at q'
    refine tg G4 H3 v x _ _ s4.gh rx fun vs rvs => ?_
    refine hb x s' σ' G1 G4 O' H3 vs _ (fun t => ((match t with | .nx s' => forB f (xs.drop (i + 1)) s' | .bk s' => .ok (.nx s') | .rt r => .ok (.rt r)).bind mk).wp Q fm.xw) ((s.gg.trans g2).trans s4.gg) w (g1.trans s4.gg) (hs'.stp s4) rvs ⟨?_, ?_, ?_, ?_⟩ (Res.wp_bind (by
      have := q'
      rw [forB] at this
      cases hx : f x s' with
      | ok a => rw [hx] at this; exact this
      | exc c fs => rw [hx] at this; exact this
      | stuck => rw [hx] at this; exact this))
    · exact fun s5 σ5 G5 G6 O5 H5 a b c d e => ⟨rfl, hlt, s5, G5, G6, O5, (g2.trans s4.gg).trans a, b, c, d, e⟩
    · exact fun s5 σ5 G5 G6 O5 H5 a b c d e => ⟨rfl, hlt, s5, G5, G6, O5, (g2.trans s4.gg).trans a, b, c, d, e⟩
    · exact fun s5 σ5 G5 G6 O5 H5 a b c d e => hn s5 σ5 G5 G6 O5 H5 (((s.gg.trans g2).trans s4.gg).trans a) b c d e
    · exact fun r v G5 O5 H5 a b c => hr r v G5 O5 H5 a b c
  · have ei : i = xs.length := by omega
    subst ei
    rw [List.drop_length] at q'
    exact .inl ⟨it.stop G' H' g2 hs'.gh (fun p hp => (hs'.own p (hO _ _ _ _ w p hp)).1), hn s' σ' G1 G' O' H' (s.gg.trans g2) w g1 hs' q'⟩
/-- a loop that neither breaks nor returns -/
structure MEnds {S : Type} (fm : Fm) (G : Hp) (W : S → L2.St → Hp → Own → Prop) (Qb : S → Prop) (D : Ends) : Prop where
  nx : ∀ s σ G1 G2 O H, Same G G2 → W s σ G1 O → Same G1 G2 → Hs fm G2 O H → Qb s → D.nx σ H
  ct : ∀ s σ G1 G2 O H, Same G G2 → W s σ G1 O → Same G1 G2 → Hs fm G2 O H → Qb s → D.ct σ H
theorem s_forM {Oi : Own} {S : Type} {ti : TI} {g : TG} {Ss : Rps α} {is : List Nat} {m : Res (List α)} {f : α → S → Res S} {mk : S → Res ρ} {s0 : S} (W : S → L2.St → Hp → Own → Prop)
    (hi : EvI K fm ti σ G O Oi R m) (hO : ∀ s σ G O, W s σ G O → ∀ p ∈ Oi, p ∈ O) (tg : Tgt K g R Ss is) (hs : Hs fm G O H) (hm : ((m.bind fun xs => forM f xs s0).bind mk).wp Q fm.xw) (h0 : W s0 σ G O)
    (hb : ∀ x s σ' G1 G' O' H' vs (D' : Ends) (Qb : S → Prop), Same G G' → W s σ' G1 O' → Same G1 G' → Hs fm G' O' H' → Ss.r K G' vs x → MEnds fm G' W Qb D' → (f x s).wp Qb fm.xw → tw D' (setL σ' is vs) H')
    (hn : ∀ s σ' G1 G' O' H', Same G G' → W s σ' G1 O' → Same G1 G' → Hs fm G' O' H' → (mk s).wp Q fm.xw → tr D σ' H') : tSeq (tFor ti g tw) tr D σ H := by
  have key : ∀ (xs : List α) (s : S), ((forB (ρ := Unit) (fun x s => (f x s).bind fun s => .ok (.nx s)) xs s).bind fun | .nx s => mk s | .rt _ => .stuck) = (forM f xs s).bind mk := by
    intro xs
    induction xs with
    | nil => intro s; rfl
    | cons x xs ih =>
      intro s
      rw [forB, forM]
      cases hx : f x s with
      | ok a => simp only [Res.bind_ok]; exact ih a
      | exc c fs => rfl
      | stuck => rfl
  refine s_forB (π := Unit) (Rr := rN) (f := fun x s => (f x s).bind fun s => .ok (.nx s)) (mk := fun | .nx s => mk s | .rt _ => .stuck) (s0 := s0) W hi hO tg hs ?_ h0 (fun x s σ' G1 G' O' H' vs D' Qb a b c d e E q => ?_) hn (fun r v G2 O2 H2 _ _ z => z.elim)
  · cases hx : m with
    | ok xs => rw [hx] at hm; simp only [Res.bind_ok] at hm ⊢; rw [key]; exact hm
    | exc c fs => rw [hx] at hm; exact hm
    | stuck => rw [hx] at hm; exact hm
  · exact hb x s σ' G1 G' O' H' vs D' (fun s => Qb (.nx s)) a b c d e ⟨E.nx, E.ct⟩ (Res.wp_bind q)
/-- while -/
def whB {S ρ : Type} (c : S → Res Bool) (f : S → Res (Tn S ρ)) : Nat → S → Res (Lp S ρ)
  | 0, _ => .stuck
  | n + 1, s => (c s).bind fun b => if b = true then (f s).bind fun t => match t with | .nx s' => whB c f n s' | .bk s' => .ok (.nx s') | .rt r => .ok (.rt r) else .ok (.nx s)
theorem s_whB {S : Type} {Sr : Type} {Rr : Rp Sr} {c : TT} {mc : S → Res Bool} {f : S → Res (Tn S Sr)} {mk : Lp S Sr → Res ρ} {s0 : S} {fuel : Nat} (W : S → L2.St → Hp → Own → Prop)
    (hs : Hs fm G O H) (hm : ((whB mc f fuel s0).bind mk).wp Q fm.xw) (h0 : W s0 σ G O)
    (hc : ∀ s σ' G1 G' O', Same G G' → W s σ' G1 O' → Same G1 G' → EvT fm c σ' G' O' (mc s))
    (hb : ∀ s σ' G1 G' O' H' (D' : Ends) (Qb : Tn S Sr → Prop), Same G G' → W s σ' G1 O' → Same G1 G' → Hs fm G' O' H' → TEnds K fm G' W Rr Qb D' → (f s).wp Qb fm.xw → tw D' σ' H')
    (hn : ∀ s σ' G1 G' O' H', Same G G' → W s σ' G1 O' → Same G1 G' → Hs fm G' O' H' → (mk (.nx s)).wp Q fm.xw → tr D σ' H')
    (hr : ∀ r v G2 O2 H2, Hs fm G2 O2 H2 → Rr.r K G2 v r → (mk (.rt r)).wp Q fm.xw → D.rt v H2) : tSeq (tWhile c tw) tr D σ H := by
  refine ⟨fun mm σ' H' => ∃ s' G1 G' O', Same G G' ∧ W s' σ' G1 O' ∧ Same G1 G' ∧ Hs fm G' O' H' ∧ ((whB mc f mm s').bind mk).wp Q fm.xw, ⟨fuel, s0, G, G, O, Same.refl _, h0, Same.refl _, hs, hm⟩, ?_⟩
  rintro mm σ' H' ⟨s', G1, G', O', g, w, g1, hs', q'⟩
  cases mm with
  | zero => exact q'.elim
  | succ mm =>
    have q1 : (mc s').wp (fun b => ((if b = true then (f s').bind fun t => match t with | .nx s' => whB mc f mm s' | .bk s' => .ok (.nx s') | .rt r => .ok (.rt r) else .ok (.nx s')).bind mk).wp Q fm.xw) fm.xw := by
      rw [whB] at q'
      cases hx : mc s' with
      | ok a => rw [hx] at q'; exact q'
      | exc c fs => rw [hx] at q'; exact q'
      | stuck => rw [hx] at q'; exact q'
    refine hc s' σ' G1 G' O' g w g1 G' H' (Same.refl _) hs'.kn _ (Res.wp_mono q1 (fun b q2 G2 H2 s2 => ?_) fun _ _ z => z)
    cases b with
    | true =>
      refine iteT ⟨_, fun σ2 H2 z => ⟨mm, Nat.lt_succ_self _, z⟩, ?_⟩
      rw [if_pos rfl] at q2
      refine hb s' σ' G1 G2 O' H2 _ (fun t => ((match t with | .nx s' => whB mc f mm s' | .bk s' => .ok (.nx s') | .rt r => .ok (.rt r)).bind mk).wp Q fm.xw) (g.trans s2.gg) w (g1.trans s2.gg) (hs'.stp s2) ⟨?_, ?_, ?_, ?_⟩ (Res.wp_bind (by
        cases hx : f s' with
        | ok a => rw [hx] at q2; exact q2
        | exc c fs => rw [hx] at q2; exact q2
        | stuck => rw [hx] at q2; exact q2))
      · exact fun s5 σ5 G5 G6 O5 H5 a b c d e => ⟨s5, G5, G6, O5, (g.trans s2.gg).trans a, b, c, d, e⟩
      · exact fun s5 σ5 G5 G6 O5 H5 a b c d e => ⟨s5, G5, G6, O5, (g.trans s2.gg).trans a, b, c, d, e⟩
      · exact fun s5 σ5 G5 G6 O5 H5 a b c d e => hn s5 σ5 G5 G6 O5 H5 ((g.trans s2.gg).trans a) b c d e
      · exact fun r v G5 O5 H5 a b c => hr r v G5 O5 H5 a b c
    | false =>
      refine iteF ?_
      rw [if_neg Bool.false_ne_true] at q2
      exact hn s' σ' G1 G2 O' H2 (g.trans s2.gg) w (g1.trans s2.gg) (hs'.stp s2) q2
end
end Mw

namespace Mw
open PySem PySem.Spec PyProof.Rows L2
section
variable {α β γ δ ρ : Type} {K : PySem.W.Frag} {fm : Fm} {σ : L2.St} {G G' H H' : Hp} {O : Own}
variable {te ta tb tc : TE} {R : Rp α} {S : Rp β} {T : Rp γ} {m : Res α} {n : Res β}

/-! ### where two ways meet again -/
structure JEnds {J : Type} (fm : Fm) (G : Hp) (W : J → L2.St → Hp → Own → Prop) (Qb : J → Prop) (N : L2.St → Hp → Prop) : Prop where
  nx : ∀ s σ G1 G2 O H, Same G G2 → W s σ G1 O → Same G1 G2 → Hs fm G2 O H → Qb s → N σ H
variable {D : Ends} {tr tt tu tw : TS} {Q : ρ → Prop}
theorem s_ifJ {J : Type} {c : TT} {mc : Res Bool} {a b : Res ρ} {k : J → Res ρ} (W : J → L2.St → Hp → Own → Prop) (hc : EvT fm c σ G O mc) (hs : Hs fm G O H) (hm : (Res.ite mc a b).wp Q fm.xw)
    (hk : ∀ s σ' G1 G' O' H', Same G G' → W s σ' G1 O' → Same G1 G' → Hs fm G' O' H' → (k s).wp Q fm.xw → tr D σ' H')
    (h1 : ∀ G' H', JEnds fm G' W (fun s => (k s).wp Q fm.xw) (tr D) → Same G G' → Hs fm G' O H' → a.wp Q fm.xw → tt { D with nx := tr D } σ H')
    (h2 : ∀ G' H', JEnds fm G' W (fun s => (k s).wp Q fm.xw) (tr D) → Same G G' → Hs fm G' O H' → b.wp Q fm.xw → tu { D with nx := tr D } σ H') : tSeq (tIfS c tt tu) tr D σ H :=
  s_if hc hs hm (fun G' H' e hs' q => h1 G' H' ⟨fun s σ G1 G2 O H a b c d e' => hk s σ G1 G2 O H (e.trans a) b c d e'⟩ e hs' q) fun G' H' e hs' q => h2 G' H' ⟨fun s σ G1 G2 O H a b c d e' => hk s σ G1 G2 O H (e.trans a) b c d e'⟩ e hs' q

/-! ### rK: more -/
def qK [DecidableEq α] (q : Qd R) : Qd (rK R) where
  dat xs := .list (xs.map q.dat)
  dp {K G v x} h := (qL q).dp (rK_rL h)
  lay := (qL q).lay
  dep := q.dep + 1
  dle := (qL q).dle
  eqv := (qL q).eqv
  nn := true
  nnd _ _ h := nomatch h
theorem n_rep {m : Res (List α)} {n : Res Int} (ha : EvE K fm ta σ G O (rK R) m) (hb : EvE K fm tb σ G O zI n) : EvN K fm (tOp rRep ta tb) σ G O R (repM m n) := fun G1 H1 e k Q q =>
  ha G1 H1 e k _ (Res.wp_mono (Res.wp_bind q) (fun x q u G2 H2 s ru =>
    hb G2 H2 (e.trans s.gg) (k.stp s) _ (Res.wp_mono (Res.wp_bind q) (fun y q v G3 H3 s' rv => by
      obtain ⟨p, vs, e1, h1, r1⟩ := ru
      cases (show v = .int y from rv)
      cases hl : (decide (-(2 ^ 63) ≤ y) && decide (y < 2 ^ 63) && decide (x.length * y.toNat ≤ lim)) with
      | true =>
        rw [repF, hl, if_pos rfl] at q
        simp only [Bool.and_eq_true, decide_eq_true_eq] at hl
        exact ⟨p, y, vs, e1, rfl, s'.gh _ _ (s'.gg _ _ h1), hl.1.1, hl.1.2, by rw [Paired.length r1, ← lim_eq]; exact hl.2, fun l hl =>
          q l _ G3 _ ((s.trans s').trans (Stp.grow s'.gh (same_new hl))) (same_back (s.trans s').hh hl) (same_back s'.gh hl) upd_same (paired_rep (r1.mono s'.gg) _)⟩
      | false => rw [repF, hl] at q; exact q.elim) fun _ _ z => z)) fun _ _ z => z)
theorem rls_some (nn : Nn R) {vs : List V} {xs : List α} (r : RLs R K G vs xs) : RLs (rO R) K G vs (xs.map some) := by
  induction r with
  | nil => exact .nil
  | cons r t ih => exact .cons ⟨nn _ _ _ _ r, r⟩ ih
/-- list[int] as list[int or None] and back -/
theorem e_mapSome (nn : Nn R) {m : Res (List α)} (h : EvE K fm te σ G O (rK R) m) : EvE K fm te σ G O (rK (rO R)) (m.bind fun xs => .ok (xs.map some)) := fun G1 H1 e k Q q =>
  h G1 H1 e k _ (Res.wp_mono (Res.wp_bind q) (fun xs q v G2 H2 s ⟨p, vs, e1, h1, r1⟩ => q v G2 H2 s ⟨p, vs, e1, h1, rls_some nn r1⟩) fun _ _ z => z)
def allSome {α : Type} : List (Option α) → Option (List α)
  | [] => some []
  | none :: _ => none
  | some a :: xs => match allSome xs with | some ys => some (a :: ys) | none => none
theorem allSome_map {α : Type} : ∀ xs : List α, allSome (xs.map some) = some xs
  | [] => rfl
  | x :: xs => by rw [List.map_cons, allSome, allSome_map xs]
theorem allSome_rls {vs : List V} {xs : List (Option α)} {ys : List α} (r : RLs (rO R) K G vs xs) (h : allSome xs = some ys) : RLs R K G vs ys := by
  induction r generalizing ys with
  | nil => cases h; exact .nil
  | @cons v x vs xs r t ih =>
    cases x with
    | none => cases h
    | some a =>
      rw [allSome] at h
      cases hx : allSome xs with
      | none => rw [hx] at h; cases h
      | some zs => rw [hx] at h; cases h; exact .cons r.2 (ih hx)
theorem e_mapGet {m : Res (List (Option α))} (h : EvE K fm te σ G O (rK (rO R)) m) : EvE K fm te σ G O (rK R) (m.bind fun xs => optM (allSome xs)) := fun G1 H1 e k Q q =>
  h G1 H1 e k _ (Res.wp_mono (Res.wp_bind q) (fun xs q v G2 H2 s ⟨p, vs, e1, h1, r1⟩ => by
    cases hx : allSome xs with
    | none => rw [hx] at q; exact q.elim
    | some ys => rw [hx] at q; exact q v G2 H2 s ⟨p, vs, e1, h1, allSome_rls r1 hx⟩) fun _ _ z => z)

/-! ### range objects -/
def rR : Rp (Int × Int) := ⟨fun _ G v a => ∃ p, v = .ref p ∧ G p = some (.rng a.1 a.2), fun e ⟨p, a, b⟩ => ⟨p, a, e _ _ b⟩⟩
theorem cr_range1 {X : Cx} : CallR X (.type "range") (fun vs H Q => ∃ j, vs = [V.int j] ∧ ∀ p, H p = none → Q (.ref p) (upd H p (.rng 0 j))) := by
  intro pins s σ H xs us Q I r h
  obtain ⟨j, rfl, q⟩ := h
  cases r with
  | cons r rr =>
    cases rr
    obtain ⟨t, rfl⟩ := r
    refine call_range_1 ⟨.ref s.heap.objs.size, upd H s.heap.objs.size (.rng 0 j), I.laid (t' := s.toks + 1 + 1) (fun b o e => Heap.get?_push_of_some _ e) (Nat.le_refl _) ?_, rfl, q _ (I.hok.fresh (Nat.le_refl _))⟩
    exact ⟨_, _, _, Heap.get?_push_size _ rfl⟩
theorem e_range1 {a : Res Int} (h : EvE K fm te σ G O zI a) : EvE K fm (tCB (fun vs H Q => ∃ j, vs = [V.int j] ∧ ∀ p, H p = none → Q (.ref p) (upd H p (.rng 0 j))) (tCons te tNil)) σ G O rR (a.bind fun j => .ok (0, j)) :=
  e_cb (a_one h) fun G1 H1 x vs k ⟨v, ev, r⟩ Q q => by
    subst ev; cases (show v = .int x from r)
    exact ⟨x, rfl, fun p hp => q _ _ _ (Stp.new k.gh hp) ⟨p, rfl, upd_same⟩⟩
def iRngO (te : TE) : TI := fun σ H R => te σ H fun x H1 => ∃ p lo hi, x = .ref p ∧ H1 p = some (.rng lo hi) ∧ -(2 ^ 62) ≤ lo ∧ lo < 2 ^ 62 ∧ -(2 ^ 62) ≤ hi ∧ hi < 2 ^ 62 ∧ R (Itr lo (hi - lo).toNat) H1
theorem pi_rngO {X : Cx} {tg e : Expr} (he : PE X e te) : PI X tg e (iRngO te) := by
  refine ⟨fun pins s σ H R I h => ?_⟩
  refine thn (he.run pins s σ H _ I h) fun v s1 ⟨x, H1, I1, r1, q1⟩ => ?_
  obtain ⟨p, lo, hi, e1, hp, h1, h2, h3, h4, q⟩ := q1
  subst e1
  cases r1
  obtain ⟨t, u, w, hg⟩ := I1.hok p _ hp
  refine wpAny_pyIter_range (r := p) (show IsRange s1.heap p lo hi 1 t u w from hg) (small_one h1 h2 h3 h4) ?_
  refine ⟨s1.heap.objs.size, [s1.heap.objs.size], _, _, H1, rfl, I1.kept (t' := s1.toks) fun b o e => Heap.get?_push_of_some _ e, turn_range _ lo (hi - lo).toNat, ?_, fun b hb => ?_, q⟩
  · have e1 : lo + ((0 : Nat) : Int) * 1 = lo := by simp
    have e2 : (((hi - lo).toNat : Nat) : Int) - ((0 : Nat) : Int) = Builtin.Range.rangeSize lo hi 1 := by rw [rangeSize_one]; split <;> omega
    show IsRangeIter _ _ (lo + ((0 : Nat) : Int) * 1) ((((hi - lo).toNat : Nat) : Int) - ((0 : Nat) : Int)) 1
    rw [e1, e2]
    exact Heap.get?_push_size _ rfl
  · have e : b = s1.heap.objs.size := by simpa using hb
    subst e
    exact I1.fpOk (Nat.le_refl _) (I1.hok.fresh (Nat.le_refl _))
def rngOM (a : Res (Int × Int)) : Res (List Int) := a.bind fun p => if (inR p.1 && inR p.2) = true then .ok (rgL p.1 (p.2 - p.1).toNat) else .stuck
theorem i_rngO {a : Res (Int × Int)} (h : EvE K fm te σ G O rR a) : EvI K fm (iRngO te) σ G O [] zI (rngOM a) := fun G1 H1 e k Q q =>
  h G1 H1 e k _ (Res.wp_mono (Res.wp_bind q) (fun x q v G2 H2 s ⟨p, ev, hp⟩ => by
    cases hj : (inR x.1 && inR x.2) with
    | false => rw [hj] at q; exact q.elim
    | true =>
      rw [hj, if_pos rfl] at q
      simp only [inR, Bool.and_eq_true, decide_eq_true_eq] at hj
      exact ⟨p, x.1, x.2, ev, s.gh _ _ hp, hj.1.1, hj.1.2, hj.2.1, hj.2.2, q _ G2 H2 s (itr_ok x.1 _)⟩) fun _ _ z => z)

/-! ### isinstance, answers that the kind of the value tells -/
/-- of what class the value is, by the representation -/
def TyIs (K : PySem.W.Frag) (R : Rp α) (f : α → String) : Prop := ∀ G H v x, Same G H → R.r K G v x → TyX K H v (.type (f x))
theorem rd_ty {H : Hp} {p : Addr} {vs : List V} (h : SqL K H p vs) : TyX K H (.ref p) (.type "list") := by
  rcases h with (h | ⟨o, h⟩) | ⟨o, its, n, h, hc, _⟩
  · exact .base (.lst h)
  · exact .base (.frz h)
  · exact .kList h hc
theorem rd_tyT {H : Hp} {p : Addr} {vs : List V} (h : SqT K H p vs) : TyX K H (.ref p) (.type "tuple") := by
  rcases h with (h | ⟨o, h⟩) | ⟨o, its, n, h, hc, _⟩
  · exact .base (.tup h)
  · exact .fTuple h
  · exact .kTuple h hc
theorem ty_I : TyIs K zI fun _ => "int" := fun G H v x e h => by cases (show v = .int x from h); exact .base (.int x)
theorem ty_B : TyIs K rB fun _ => "bool" := fun G H v x e h => by cases (show v = .bl x from h); exact .base (.bl x)
theorem ty_S : TyIs K rS fun _ => "str" := fun G H v x e h => by cases (show v = .str x from h); exact .base (.str x)
theorem ty_OI : TyIs K (rO zI) fun o => match o with | none => "NoneType" | some _ => "int" := fun G H v x e h => by
  cases x with
  | none => cases (show v = .non from h); exact .base .non
  | some a => cases (show v = .int a from h.2); exact .base (.int a)
theorem ty_K : TyIs K (rK R) fun _ => "list" := fun G H v x e ⟨p, vs, ev, h, _⟩ => by subst ev; exact .base (.lst (e _ _ h))
theorem ty_L : TyIs K (rL R) fun _ => "list" := fun G H v x e ⟨p, vs, ev, h, _⟩ => by subst ev; exact rd_ty (same_l e h)
theorem ty_T : TyIs K (rT R) fun _ => "tuple" := fun G H v x e ⟨p, vs, ev, h, _⟩ => by subst ev; exact rd_tyT (same_t e h)
theorem ty_P {S : Rps α} : TyIs K (rP S) fun _ => "tuple" := fun G H v x e ⟨p, vs, ev, h, _⟩ => by subst ev; exact rd_tyT (same_t e h)
theorem e_isi {f : α → String} {c : String} {g : α → Bool} (ty : TyIs K R f) (hg : ∀ x, kitB (f x) c = some (g x)) (h : EvE K fm te σ G O R m) :
    EvE K fm (tCB (rIsi K) (tCons te (tCons (tC (.ty c)) tNil))) σ G O rB (m.bind fun x => .ok (g x)) := fun G1 H1 e k Q q =>
  h G1 H1 e k _ (Res.wp_mono (Res.wp_bind q) (fun x q v G2 H2 s r => ⟨v, .ty c, .type (f x), .type c, g x, rfl, .ty c, ty _ _ _ _ s.gh r, kit_ty (hg x), q _ G2 H2 s rfl⟩) fun _ _ z => z)

/-! ### list.index -/
def indexF {α : Type} [DecidableEq α] (xs : List α) (x : α) : Res Int := if xs.findIdx (fun y => decide (y = x)) < xs.length then .ok ((xs.findIdx fun y => decide (y = x)) : Nat) else .stuck
def indexM {α : Type} [DecidableEq α] : Res (List α) → Res α → Res Int := Res.bind2 indexF
theorem e_index [DecidableEq α] (s : Sr R) {m : Res (List α)} {n : Res α} (ha : EvE K fm ta σ G O (rL R) m) (hb : EvE K fm tb σ G O R n) : EvE K fm (tBM K "list" (rIndex K) ta (tCons tb tNil)) σ G O zI (indexM m n) := fun G1 H1 e k Q q =>
  ha G1 H1 e k _ (Res.wp_mono (Res.wp_bind q) (fun xs q v G2 H2 s2 ⟨p, vs, ev, hq, rs⟩ => by
    subst ev
    refine ⟨.inl ⟨rfl, vs, same_l s2.gh hq⟩, ?_⟩
    refine hb G2 H2 (e.trans s2.gg) (k.stp s2) _ (Res.wp_mono (Res.wp_bind q) (fun y q w G3 H3 s3 rw => ?_) fun _ _ z => z)
    cases s.is rw; cases sr_vals s rs
    rw [indexF] at q
    split at q
    · rename_i hl
      refine ⟨p, _, s.enc y, xs.findIdx (fun z => decide (z = y)), s.enc (xs[xs.findIdx (fun z => decide (z = y))]), rfl, rfl, same_l s3.hh (same_l s2.gh hq), s.fl y, sr_all s xs, by simp [hl], ?_, ?_, q _ G3 H3 (s2.trans s3) rfl⟩
      · rw [s.eq]; exact List.findIdx_getElem (w := hl)
      · intro mm z hmm hz
        rw [List.getElem?_map] at hz
        have hl' : mm < xs.length := Nat.lt_trans hmm hl
        rw [List.getElem?_eq_getElem hl'] at hz
        cases hz
        rw [s.eq]
        have := List.not_of_lt_findIdx hmm
        simpa using this
    · exact q.elim) fun _ _ z => z)
end
end Mw

namespace Mw
open PySem PySem.Spec PyProof.Rows L2
def appM {α ρ : Type} (xs : List α) (m : Res α) (mk : List α → Res ρ) : Res ρ := m.bind fun y => if xs.length < lim then mk (xs ++ [y]) else .stuck
theorem appM_ok {α ρ : Type} (xs : List α) (y : α) (mk : List α → Res ρ) (h : xs.length < lim) : appM xs (.ok y) mk = mk (xs ++ [y]) := by
  show (if xs.length < lim then mk (xs ++ [y]) else .stuck) = _
  rw [if_pos h]
def setM {α ρ : Type} (xs : List α) (n : Res Int) (m : Res α) (mk : List α → Res ρ) : Res ρ := m.bind fun y => n.bind fun z => (setF xs z y).bind mk
def augM {ρ : Type} (f : Int → Int → Int) (x : Int) (m : Res Int) (mk : Int → Res ρ) : Res ρ := m.bind fun y => mk (f x y)
def Lp.el {S π ρ : Type} (N : S → Res ρ) (R : π → Res ρ) : Lp S π → Res ρ
  | .nx s => N s
  | .rt r => R r
section
variable {α β γ δ ρ : Type} {K : PySem.W.Frag} {fm : Fm} {σ : L2.St} {G G' H H' : Hp} {O : Own}
variable {te ta tb tc : TE} {R : Rp α} {S : Rp β} {T : Rp γ} {m : Res α} {n : Res β}
variable {D : Ends} {tr tt tu tw : TS} {Q : ρ → Prop}
theorem g_ret0 (he : EvE K fm te σ G O R m) (hs : Hs fm G O H) {Q : α → Prop} (hm : m.wp Q fm.xw)
    (k : ∀ r v G' H', Hs fm G' O H' → R.r K G' v r → Q r → D.rt v H') : tSeq (tRet te) tr D σ H :=
  he G H (Same.refl _) hs.kn _ (Res.wp_mono hm (fun x q v G2 H2 s r => k x v G2 H2 (hs.stp s) r q) fun _ _ z => z)
theorem Hs.ne (h : Hs fm G O H) (i j : Nat) {a b : Addr} {o u : HO} (hi : O[i]? = some (a, o)) (hj : O[j]? = some (b, u)) (hij : i ≠ j) : b ≠ a := fun e => hij (nodup_at h.nd hi hj e.symm)
theorem Hs.none2 (h : Hs fm G O H) (i j : Nat) {a b : Addr} {o u : HO} (hi : O[i]? = some (a, o)) (hj : O[j]? = some (b, u)) (hij : i ≠ j) : upd G a o b = none := by
  rw [upd_ne (h.ne i j hi hj hij)]
  exact (h.at j hj).2.1
theorem nx_of (h : D.nx σ H) : tNext D σ H := h
theorem s_pass (h : tr D σ H) : tSeq tNext tr D σ H := h
theorem g_app {i : Nat} (j : Nat) {l : Addr} {vs : List V} {xs : List α} {m : Res α} {mk : List α → Res ρ} (hx : σ[i]? = some (some (.ref l))) (hj : O[j]? = some (l, .lst vs)) (hr : RLs R K G vs xs) (he : EvE K fm te σ G O R m) (hs : Hs fm G O H)
    (hm : (appM xs m mk).wp Q fm.xw)
    (k : ∀ y v G' H', Same G G' → Hs fm G' (O.set j (l, .lst (vs ++ [v]))) H' → RLs R K G' (vs ++ [v]) (xs ++ [y]) → (mk (xs ++ [y])).wp Q fm.xw → tr D σ H') : tSeq (tDrop (tBM K "list" rAppend (tVar i) (tCons te tNil))) tr D σ H := s_append j hx hj hr he hs hm k
theorem g_set {i : Nat} (j : Nat) {l : Addr} {vs : List V} {xs : List α} {m : Res α} {n : Res Int} {mk : List α → Res ρ} (hx : σ[i]? = some (some (.ref l))) (hj : O[j]? = some (l, .lst vs)) (hr : RLs R K G vs xs) (he : EvE K fm te σ G O R m) (hi : EvE K fm ta σ G O zI n) (hs : Hs fm G O H)
    (hm : (setM xs n m mk).wp Q fm.xw)
    (k : ∀ ys ws G' H', Same G G' → Hs fm G' (O.set j (l, .lst ws)) H' → RLs R K G' ws ys → (mk ys).wp Q fm.xw → tr D σ H') : tSeq (tAsg te (gSub (tVar i) ta rSetL)) tr D σ H := s_setL j hx hj hr he hi hs hm k
theorem g_aug {i : Nat} {f : Int → Int → Int} {x : Int} {m : Res Int} {mk : Int → Res ρ} (hx : σ[i]? = some (some (.int x))) (he : EvE K fm te σ G O zI m) (hs : Hs fm G O H) (hm : (augM f x m mk).wp Q fm.xw)
    (k : ∀ y G' H', Same G G' → Hs fm G' O H' → (mk (f x y)).wp Q fm.xw → tr D (σ.set i (some (.int (f x y)))) H') : tSeq (tAug i te (ipI f)) tr D σ H := s_aug hx he hs hm k
theorem g_forB {Oi : Own} {S : Type} {Sr : Type} {Rr : Rp Sr} {ti : TI} {g : TG} {Ss : Rps α} {is : List Nat} {m : Res (List α)} {f : α → S → Res (Tn S Sr)} {N : S → Res ρ} {Rt : Sr → Res ρ} {s0 : S} (W : S → L2.St → Hp → Own → Prop)
    (hi : EvI K fm ti σ G O Oi R m) (hO : ∀ s σ G O, W s σ G O → ∀ p ∈ Oi, p ∈ O) (tg : Tgt K g R Ss is) (hs : Hs fm G O H) (hm : ((m.bind fun xs => forB f xs s0).bind (Lp.el N Rt)).wp Q fm.xw) (h0 : W s0 σ G O)
    (hr : ∀ r v G2 O2 H2, Hs fm G2 O2 H2 → Rr.r K G2 v r → (Rt r).wp Q fm.xw → D.rt v H2)
    (hb : ∀ x s σ' G1 G' O' H' vs (D' : Ends) (Qb : Tn S Sr → Prop), Same G G' → W s σ' G1 O' → Same G1 G' → Hs fm G' O' H' → Ss.r K G' vs x → TEnds K fm G' W Rr Qb D' → (f x s).wp Qb fm.xw → tw D' (setL σ' is vs) H')
    (hn : ∀ s σ' G1 G' O' H', Same G G' → W s σ' G1 O' → Same G1 G' → Hs fm G' O' H' → (N s).wp Q fm.xw → tr D σ' H') : tSeq (tFor ti g tw) tr D σ H :=
  s_forB (π := Unit) W hi hO tg hs hm h0 hb hn hr
theorem g_forM {Oi : Own} {S : Type} {ti : TI} {g : TG} {Ss : Rps α} {is : List Nat} {m : Res (List α)} {f : α → S → Res S} {mk : S → Res ρ} {s0 : S} (W : S → L2.St → Hp → Own → Prop)
    (hi : EvI K fm ti σ G O Oi R m) (hO : ∀ s σ G O, W s σ G O → ∀ p ∈ Oi, p ∈ O) (tg : Tgt K g R Ss is) (hs : Hs fm G O H) (hm : ((m.bind fun xs => forM f xs s0).bind mk).wp Q fm.xw) (h0 : W s0 σ G O)
    (hb : ∀ x s σ' G1 G' O' H' vs (D' : Ends) (Qb : S → Prop), Same G G' → W s σ' G1 O' → Same G1 G' → Hs fm G' O' H' → Ss.r K G' vs x → MEnds fm G' W Qb D' → (f x s).wp Qb fm.xw → tw D' (setL σ' is vs) H')
    (hn : ∀ s σ' G1 G' O' H', Same G G' → W s σ' G1 O' → Same G1 G' → Hs fm G' O' H' → (mk s).wp Q fm.xw → tr D σ' H') : tSeq (tFor ti g tw) tr D σ H := s_forM W hi hO tg hs hm h0 hb hn
theorem g_whB {S : Type} {Sr : Type} {Rr : Rp Sr} {c : TT} {mc : S → Res Bool} {f : S → Res (Tn S Sr)} {N : S → Res ρ} {Rt : Sr → Res ρ} {s0 : S} {fuel : Nat} (W : S → L2.St → Hp → Own → Prop)
    (hs : Hs fm G O H) (hm : ((whB mc f fuel s0).bind (Lp.el N Rt)).wp Q fm.xw) (h0 : W s0 σ G O)
    (hr : ∀ r v G2 O2 H2, Hs fm G2 O2 H2 → Rr.r K G2 v r → (Rt r).wp Q fm.xw → D.rt v H2)
    (hc : ∀ s σ' G1 G' O', Same G G' → W s σ' G1 O' → Same G1 G' → EvT fm c σ' G' O' (mc s))
    (hb : ∀ s σ' G1 G' O' H' (D' : Ends) (Qb : Tn S Sr → Prop), Same G G' → W s σ' G1 O' → Same G1 G' → Hs fm G' O' H' → TEnds K fm G' W Rr Qb D' → (f s).wp Qb fm.xw → tw D' σ' H')
    (hn : ∀ s σ' G1 G' O' H', Same G G' → W s σ' G1 O' → Same G1 G' → Hs fm G' O' H' → (N s).wp Q fm.xw → tr D σ' H') : tSeq (tWhile c tw) tr D σ H := s_whB W hs hm h0 hc hb hn hr
end

/-! ### the same over a word that is not opened by itself -/
theorem Wp.ofSp {α : Type} {m : Res α} {Q : α → Prop} {F G0 : Hp} {E : XK} {cl : Nat → Addr} (h : Wp m Q fun c fs => ∀ H' d, Same F H' → XdOk fs d H' → E (.ref (cl c)) d H') : Wp m Q (Fm.xw ⟨F, G0, E, cl⟩) := .mk h.out
section
variable {α β γ δ ρ : Type} {K : PySem.W.Frag} {fm : Fm} {σ : L2.St} {G G' H H' : Hp} {O : Own}
variable {te ta tb tc : TE} {R : Rp α} {S : Rp β} {T : Rp γ} {m : Res α} {n : Res β}
variable {D : Ends} {tr tt tu tw : TS} {Q : ρ → Prop}
theorem w_asg {g : TG} {Ss : Rps α} {is : List Nat} {mk : α → Res ρ} (tg : Tgt K g R Ss is) (he : EvE K fm te σ G O R m) (hs : Hs fm G O H) (hm : Wp (m.bind mk) Q fm.xw)
    (k : ∀ x vs G' H', Same G G' → Hs fm G' O H' → Ss.r K G' vs x → Wp (mk x) Q fm.xw → tr D (setL σ is vs) H') : tSeq (tAsg te g) tr D σ H :=
  s_asg tg he hs hm.out fun x vs G' H' a b c d => k x vs G' H' a b c (.mk d)
theorem w_asgN {i : Nat} {m : Res (List α)} {mk : List α → Res ρ} (he : EvN K fm te σ G O R m) (hs : Hs fm G O H) (hm : Wp (m.bind mk) Q fm.xw)
    (k : ∀ xs p vs G' H', Same G G' → Hs fm G' ((p, .lst vs) :: O) H' → RLs R K G' vs xs → Wp (mk xs) Q fm.xw → tr D (σ.set i (some (.ref p))) H') : tSeq (tAsg te (gName i)) tr D σ H :=
  s_asgN he hs hm.out fun x p vs G' H' a b c d => k x p vs G' H' a b c (.mk d)
theorem w_aug {i : Nat} {f : Int → Int → Int} {x : Int} {m : Res Int} {mk : Int → Res ρ} (hx : σ[i]? = some (some (.int x))) (he : EvE K fm te σ G O zI m) (hs : Hs fm G O H) (hm : Wp (augM f x m mk) Q fm.xw)
    (k : ∀ y G' H', Same G G' → Hs fm G' O H' → Wp (mk (f x y)) Q fm.xw → tr D (σ.set i (some (.int (f x y)))) H') : tSeq (tAug i te (ipI f)) tr D σ H :=
  g_aug hx he hs hm.out fun y G' H' a b c => k y G' H' a b (.mk c)
theorem w_drop {mk : α → Res ρ} (he : EvE K fm te σ G O R m) (hs : Hs fm G O H) (hm : Wp (m.bind mk) Q fm.xw)
    (k : ∀ x G' H', Same G G' → Hs fm G' O H' → Wp (mk x) Q fm.xw → tr D σ H') : tSeq (tDrop te) tr D σ H := s_drop he hs hm.out fun x G' H' a b c => k x G' H' a b (.mk c)
theorem w_ret {kr : α → ρ} (he : EvE K fm te σ G O R m) (hs : Hs fm G O H) (hm : Wp (m.bind fun r => .ok (kr r)) Q fm.xw)
    (k : ∀ r v G' H', Hs fm G' O H' → R.r K G' v r → Q (kr r) → D.rt v H') : tSeq (tRet te) tr D σ H := s_ret he hs hm.out k
theorem w_ret0 (he : EvE K fm te σ G O R m) (hs : Hs fm G O H) {Q : α → Prop} (hm : Wp m Q fm.xw)
    (k : ∀ r v G' H', Hs fm G' O H' → R.r K G' v r → Q r → D.rt v H') : tSeq (tRet te) tr D σ H := g_ret0 he hs hm.out k
theorem w_if {c : TT} {mc : Res Bool} {a b : Res ρ} (hc : EvT fm c σ G O mc) (hs : Hs fm G O H) (hm : Wp (Res.ite mc a b) Q fm.xw)
    (h1 : ∀ G' H', Same G G' → Hs fm G' O H' → Wp a Q fm.xw → tt { D with nx := tr D } σ H') (h2 : ∀ G' H', Same G G' → Hs fm G' O H' → Wp b Q fm.xw → tu { D with nx := tr D } σ H') : tSeq (tIfS c tt tu) tr D σ H :=
  s_if hc hs hm.out (fun G' H' a b c => h1 G' H' a b (.mk c)) fun G' H' a b c => h2 G' H' a b (.mk c)
theorem w_ifJ {J : Type} {c : TT} {mc : Res Bool} {a b : Res ρ} {k : J → Res ρ} (W : J → L2.St → Hp → Own → Prop) (hc : EvT fm c σ G O mc) (hs : Hs fm G O H) (hm : Wp (Res.ite mc a b) Q fm.xw)
    (hk : ∀ s σ' G1 G' O' H', Same G G' → W s σ' G1 O' → Same G1 G' → Hs fm G' O' H' → Wp (k s) Q fm.xw → tr D σ' H')
    (h1 : ∀ G' H', JEnds fm G' W (fun s => Wp (k s) Q fm.xw) (tr D) → Same G G' → Hs fm G' O H' → Wp a Q fm.xw → tt { D with nx := tr D } σ H')
    (h2 : ∀ G' H', JEnds fm G' W (fun s => Wp (k s) Q fm.xw) (tr D) → Same G G' → Hs fm G' O H' → Wp b Q fm.xw → tu { D with nx := tr D } σ H') : tSeq (tIfS c tt tu) tr D σ H :=
  w_if hc hs hm (fun G' H' e hs' q => h1 G' H' ⟨fun s σ G1 G2 O H a b c d e' => hk s σ G1 G2 O H (e.trans a) b c d e'⟩ e hs' q) fun G' H' e hs' q => h2 G' H' ⟨fun s σ G1 G2 O H a b c d e' => hk s σ G1 G2 O H (e.trans a) b c d e'⟩ e hs' q
theorem w_app {i : Nat} (j : Nat) {l : Addr} {vs : List V} {xs : List α} {m : Res α} {mk : List α → Res ρ} (hx : σ[i]? = some (some (.ref l))) (hj : O[j]? = some (l, .lst vs)) (hr : RLs R K G vs xs) (he : EvE K fm te σ G O R m) (hs : Hs fm G O H)
    (hm : Wp (appM xs m mk) Q fm.xw)
    (k : ∀ y v G' H', Same G G' → Hs fm G' (O.set j (l, .lst (vs ++ [v]))) H' → RLs R K G' (vs ++ [v]) (xs ++ [y]) → Wp (mk (xs ++ [y])) Q fm.xw → tr D σ H') : tSeq (tDrop (tBM K "list" rAppend (tVar i) (tCons te tNil))) tr D σ H :=
  g_app j hx hj hr he hs hm.out fun y v G' H' a b c d => k y v G' H' a b c (.mk d)
theorem w_set {i : Nat} (j : Nat) {l : Addr} {vs : List V} {xs : List α} {m : Res α} {n : Res Int} {mk : List α → Res ρ} (hx : σ[i]? = some (some (.ref l))) (hj : O[j]? = some (l, .lst vs)) (hr : RLs R K G vs xs) (he : EvE K fm te σ G O R m) (hi : EvE K fm ta σ G O zI n) (hs : Hs fm G O H)
    (hm : Wp (setM xs n m mk) Q fm.xw)
    (k : ∀ ys ws G' H', Same G G' → Hs fm G' (O.set j (l, .lst ws)) H' → RLs R K G' ws ys → Wp (mk ys) Q fm.xw → tr D σ H') : tSeq (tAsg te (gSub (tVar i) ta rSetL)) tr D σ H :=
  g_set j hx hj hr he hi hs hm.out fun y v G' H' a b c d => k y v G' H' a b c (.mk d)
theorem w_forB {Oi : Own} {S : Type} {Sr : Type} {Rr : Rp Sr} {ti : TI} {g : TG} {Ss : Rps α} {is : List Nat} {m : Res (List α)} {f : α → S → Res (Tn S Sr)} {N : S → Res ρ} {Rt : Sr → Res ρ} {s0 : S} (W : S → L2.St → Hp → Own → Prop)
    (hi : EvI K fm ti σ G O Oi R m) (hO : ∀ s σ G O, W s σ G O → ∀ p ∈ Oi, p ∈ O) (tg : Tgt K g R Ss is) (hs : Hs fm G O H) (hm : Wp ((m.bind fun xs => forB f xs s0).bind (Lp.el N Rt)) Q fm.xw) (h0 : W s0 σ G O)
    (hr : ∀ r v G2 O2 H2, Hs fm G2 O2 H2 → Rr.r K G2 v r → (Rt r).wp Q fm.xw → D.rt v H2)
    (hb : ∀ x s σ' G1 G' O' H' vs (D' : Ends) (Qb : Tn S Sr → Prop), Same G G' → W s σ' G1 O' → Same G1 G' → Hs fm G' O' H' → Ss.r K G' vs x → TEnds K fm G' W Rr Qb D' → Wp (f x s) Qb fm.xw → tw D' (setL σ' is vs) H')
    (hn : ∀ s σ' G1 G' O' H', Same G G' → W s σ' G1 O' → Same G1 G' → Hs fm G' O' H' → Wp (N s) Q fm.xw → tr D σ' H') : tSeq (tFor ti g tw) tr D σ H :=
  g_forB W hi hO tg hs hm.out h0 hr (fun x s σ' G1 G' O' H' vs D' Qb a b c d e f g => hb x s σ' G1 G' O' H' vs D' Qb a b c d e f (.mk g)) fun s σ' G1 G' O' H' a b c d e => hn s σ' G1 G' O' H' a b c d (.mk e)
theorem w_forM {Oi : Own} {S : Type} {ti : TI} {g : TG} {Ss : Rps α} {is : List Nat} {m : Res (List α)} {f : α → S → Res S} {mk : S → Res ρ} {s0 : S} (W : S → L2.St → Hp → Own → Prop)
    (hi : EvI K fm ti σ G O Oi R m) (hO : ∀ s σ G O, W s σ G O → ∀ p ∈ Oi, p ∈ O) (tg : Tgt K g R Ss is) (hs : Hs fm G O H) (hm : Wp ((m.bind fun xs => forM f xs s0).bind mk) Q fm.xw) (h0 : W s0 σ G O)
    (hb : ∀ x s σ' G1 G' O' H' vs (D' : Ends) (Qb : S → Prop), Same G G' → W s σ' G1 O' → Same G1 G' → Hs fm G' O' H' → Ss.r K G' vs x → MEnds fm G' W Qb D' → Wp (f x s) Qb fm.xw → tw D' (setL σ' is vs) H')
    (hn : ∀ s σ' G1 G' O' H', Same G G' → W s σ' G1 O' → Same G1 G' → Hs fm G' O' H' → Wp (mk s) Q fm.xw → tr D σ' H') : tSeq (tFor ti g tw) tr D σ H :=
  g_forM W hi hO tg hs hm.out h0 (fun x s σ' G1 G' O' H' vs D' Qb a b c d e f g => hb x s σ' G1 G' O' H' vs D' Qb a b c d e f (.mk g)) fun s σ' G1 G' O' H' a b c d e => hn s σ' G1 G' O' H' a b c d (.mk e)
theorem w_whB {S : Type} {Sr : Type} {Rr : Rp Sr} {c : TT} {mc : S → Res Bool} {f : S → Res (Tn S Sr)} {N : S → Res ρ} {Rt : Sr → Res ρ} {s0 : S} {fuel : Nat} (W : S → L2.St → Hp → Own → Prop)
    (hs : Hs fm G O H) (hm : Wp ((whB mc f fuel s0).bind (Lp.el N Rt)) Q fm.xw) (h0 : W s0 σ G O)
    (hr : ∀ r v G2 O2 H2, Hs fm G2 O2 H2 → Rr.r K G2 v r → (Rt r).wp Q fm.xw → D.rt v H2)
    (hc : ∀ s σ' G1 G' O', Same G G' → W s σ' G1 O' → Same G1 G' → EvT fm c σ' G' O' (mc s))
    (hb : ∀ s σ' G1 G' O' H' (D' : Ends) (Qb : Tn S Sr → Prop), Same G G' → W s σ' G1 O' → Same G1 G' → Hs fm G' O' H' → TEnds K fm G' W Rr Qb D' → Wp (f s) Qb fm.xw → tw D' σ' H')
    (hn : ∀ s σ' G1 G' O' H', Same G G' → W s σ' G1 O' → Same G1 G' → Hs fm G' O' H' → Wp (N s) Q fm.xw → tr D σ' H') : tSeq (tWhile c tw) tr D σ H :=
  g_whB W hs hm.out h0 hr hc (fun s σ' G1 G' O' H' D' Qb a b c d e f => hb s σ' G1 G' O' H' D' Qb a b c d e (.mk f)) fun s σ' G1 G' O' H' a b c d e => hn s σ' G1 G' O' H' a b c d (.mk e)
end
/-- a def as its callers take it -/
structure Cal (P : Program) (w : World) (K : PySem.W.Frag) (mg : Str → Option Value) (base : Heap) (x : Str) (k : Nat) (ps : List Str) (sp : Sp) where
  f : Addr
  fd : FuncData
  ok : FnOk P w K mg base (L2.CX P w) k f fd ps sp
  mgx : mg x = some (.ref f)
  kp : PySem.W.keepIn K (.ref f) = true
  bd : Binds K fd ps []
theorem b_len : bootBuiltins "len" = some (.builtin "len") := by decide +kernel
theorem b_sum : bootBuiltins "sum" = some (.builtin "sum") := by decide +kernel
theorem b_any : bootBuiltins "any" = some (.builtin "any") := by decide +kernel
theorem b_all : bootBuiltins "all" = some (.builtin "all") := by decide +kernel
theorem b_max : bootBuiltins "max" = some (.builtin "max") := by decide +kernel
theorem b_min : bootBuiltins "min" = some (.builtin "min") := by decide +kernel
theorem b_isinstance : bootBuiltins "isinstance" = some (.builtin "isinstance") := by decide +kernel
theorem b_int : bootBuiltins "int" = some (.type "int") := by decide +kernel
theorem b_list : bootBuiltins "list" = some (.type "list") := by decide +kernel
theorem b_tuple : bootBuiltins "tuple" = some (.type "tuple") := by decide +kernel
theorem b_range : bootBuiltins "range" = some (.type "range") := by decide +kernel
theorem b_bool : bootBuiltins "bool" = some (.type "bool") := by decide +kernel
theorem b_str : bootBuiltins "str" = some (.type "str") := by decide +kernel
end Mw
namespace Mw
open PySem L2
theorem isi_OI_int : ∀ x : Option Int, kitB (match x with | none => "NoneType" | some _ => "int") "int" = some x.isSome
  | none => (by decide +kernel : kitB "NoneType" "int" = some false)
  | some _ => (by decide +kernel : kitB "int" "int" = some true)
theorem isi_OI_bool : ∀ x : Option Int, kitB (match x with | none => "NoneType" | some _ => "int") "bool" = some false
  | none => (by decide +kernel : kitB "NoneType" "bool" = some false)
  | some _ => (by decide +kernel : kitB "int" "bool" = some false)
end Mw

namespace Mw
open PySem PySem.Spec PyProof.Rows L2
/-! ### dicts of one's own -/
def dget {κ β : Type} [DecidableEq κ] (xs : List (κ × β)) (k : κ) : Option β := (xs.find? fun p => decide (p.1 = k)).map (·.2)
def dput {κ β : Type} [DecidableEq κ] (xs : List (κ × β)) (k : κ) (v : β) : List (κ × β) := if (xs.any fun p => decide (p.1 = k)) = true then xs.map fun p => if p.1 = k then (p.1, v) else p else xs ++ [(k, v)]
/-- keys that are one of the layer's -/
structure Ke (κ : Type) [DecidableEq κ] where
  enc : κ → Key
  inj : ∀ {a b}, enc a = enc b → a = b
  rp : Rp κ
  is : ∀ {K G v k}, rp.r K G v k ↔ v = kV (enc k)
def keI : Ke Int := ⟨.inl, fun h => Sum.inl.inj h, zI, Iff.rfl⟩
def keS : Ke Str := ⟨.inr, fun h => Sum.inr.inj h, rS, Iff.rfl⟩
section
variable {α β γ δ ρ κ : Type} [DecidableEq κ] {K : PySem.W.Frag} {fm : Fm} {σ : L2.St} {G G' H H' : Hp} {O : Own}
variable {te ta tb tc : TE} {R : Rp α} {S : Rp β} {T : Rp γ} {m : Res α} {n : Res β}
variable {D : Ends} {tr tt tu tw : TS} {Q : ρ → Prop}
abbrev RKs (k : Ke κ) (R : Rp β) (K : PySem.W.Frag) (G : Hp) : List (Key × V) → List (κ × β) → Prop := Paired fun p x => p.1 = k.enc x.1 ∧ R.r K G p.2 x.2
theorem RKs.mono {k : Ke κ} {R : Rp β} {vs : List (Key × V)} {xs : List (κ × β)} (e : Same G G') (h : RKs k R K G vs xs) : RKs k R K G' vs xs := Paired.mapP h fun _ _ q => ⟨q.1, R.mono e q.2⟩
theorem RKs.any {k : Ke κ} {R : Rp β} {vs : List (Key × V)} {xs : List (κ × β)} (h : RKs k R K G vs xs) (y : κ) : (vs.any fun p => decide (p.1 = k.enc y)) = xs.any fun p => decide (p.1 = y) := by
  induction h with
  | nil => rfl
  | cons r t ih => rw [List.any_cons, List.any_cons, ih, r.1]; congr 1; exact decide_eq_decide.mpr ⟨k.inj, fun e => by rw [e]⟩
theorem RKs.get {k : Ke κ} {R : Rp β} {vs : List (Key × V)} {xs : List (κ × β)} (h : RKs k R K G vs xs) (y : κ) :
    match dget xs y with | some b => ∃ v, valV vs (k.enc y) = some v ∧ R.r K G v b | none => valV vs (k.enc y) = none := by
  induction h with
  | nil => rfl
  | @cons p x vs xs r t ih =>
    by_cases e : x.1 = y
    · have : dget (x :: xs) y = some x.2 := by simp [dget, List.find?_cons, e]
      rw [this]
      exact ⟨p.2, valV_pos (r.1.trans (by rw [e])), r.2⟩
    · have : dget (x :: xs) y = dget xs y := by simp [dget, List.find?_cons, e]
      rw [this, valV_neg (fun q => e (k.inj (r.1.symm.trans q)))]
      exact ih
theorem RKs.isSome {k : Ke κ} {R : Rp β} {vs : List (Key × V)} {xs : List (κ × β)} (h : RKs k R K G vs xs) (y : κ) : (valV vs (k.enc y)).isSome = (dget xs y).isSome := by
  have q := h.get y
  cases e : dget xs y with
  | none => rw [e] at q; rw [show valV vs (k.enc y) = none from q]; rfl
  | some b => rw [e] at q; obtain ⟨v, hv, _⟩ := q; rw [hv]; rfl
theorem RKs.rep {k : Ke κ} {R : Rp β} {vs : List (Key × V)} {xs : List (κ × β)} (h : RKs k R K G vs xs) (y : κ) {v : V} {b : β} (r : R.r K G v b) :
    RKs k R K G (vs.map fun p => if p.1 = k.enc y then (p.1, v) else p) (xs.map fun p => if p.1 = y then (p.1, b) else p) := by
  induction h with
  | nil => exact .nil
  | @cons p x vs xs q t ih =>
    refine .cons ?_ ih
    by_cases e : x.1 = y
    · dsimp only; rw [if_pos e, if_pos (q.1.trans (by rw [e]))]; exact ⟨q.1, r⟩
    · dsimp only; rw [if_neg e, if_neg (fun z => e (k.inj (q.1.symm.trans z)))]; exact q
theorem RKs.put {k : Ke κ} {R : Rp β} {vs : List (Key × V)} {xs : List (κ × β)} (h : RKs k R K G vs xs) (y : κ) {v : V} {b : β} (r : R.r K G v b) : RKs k R K G (putK vs (k.enc y) v) (dput xs y b) := by
  unfold putK dput
  rw [h.any y]
  split
  · exact RKs.rep h y r
  · exact paired_app h (.cons ⟨rfl, r⟩ .nil)
/-- {} -/
def EvD (K : PySem.W.Frag) (fm : Fm) (te : TE) (σ : L2.St) (G : Hp) (O : Own) : Prop :=
  ∀ G1 H1, Same G G1 → Kn fm G1 O H1 → ∀ Q : VK, (∀ p G2 H2, Stp G1 H1 G2 H2 → H1 p = none → G2 p = none → H2 p = some (.dK []) → Q (.ref p) H2) → te σ H1 Q
theorem d_new : EvD K fm tDNewK σ G O := fun G1 H1 e k Q q p hp => q p G1 _ (Stp.grow k.gh (same_new hp)) hp (same_back k.gh hp) upd_same
theorem w_asgD {i : Nat} {k : Ke κ} {R : Rp β} {mk : List (κ × β) → Res ρ} (he : EvD K fm te σ G O) (hs : Hs fm G O H) (hm : Wp ((Res.ok []).bind mk) Q fm.xw)
    (kk : ∀ xs p vs G' H', Same G G' → Hs fm G' ((p, .dK vs) :: O) H' → RKs k R K G' vs xs → Wp (mk xs) Q fm.xw → tr D (σ.set i (some (.ref p))) H') : tSeq (tAsg te (gName i)) tr D σ H :=
  he G H (Same.refl _) hs.kn _ fun p G2 H2 s hp gp hl => kk [] p [] G2 H2 s.gg (hs.new s hp gp hl) .nil hm
def dputM {κ β ρ : Type} [DecidableEq κ] (xs : List (κ × β)) (n : Res κ) (m : Res β) (mk : List (κ × β) → Res ρ) : Res ρ := m.bind fun y => n.bind fun z => if xs.length < lim then mk (dput xs z y) else .stuck
theorem w_dput {i : Nat} (j : Nat) {l : Addr} {k : Ke κ} {R : Rp β} {vs : List (Key × V)} {xs : List (κ × β)} {m : Res β} {n : Res κ} {mk : List (κ × β) → Res ρ} (hx : σ[i]? = some (some (.ref l))) (hj : O[j]? = some (l, .dK vs)) (hr : RKs k R K G vs xs)
    (he : EvE K fm te σ G O R m) (hi : EvE K fm ta σ G O k.rp n) (hs : Hs fm G O H) (hm : Wp (dputM xs n m mk) Q fm.xw)
    (kk : ∀ ys ws G' H', Same G G' → Hs fm G' (O.set j (l, .dK ws)) H' → RKs k R K G' ws ys → Wp (mk ys) Q fm.xw → tr D σ H') : tSeq (sDPut (tVar i) ta te) tr D σ H :=
  he G H (Same.refl _) hs.kn _ (Res.wp_mono (Res.wp_bind hm.out) (fun y q v G2 H2 s r => ⟨_, hx, hi G2 H2 s.gg (hs.stp s).kn _ (Res.wp_mono (Res.wp_bind q) (fun z q v' G3 H3 s' r' => by
    have ss := s.trans s'
    rw [k.is.mp r']
    by_cases hl : xs.length < lim
    · rw [if_pos hl] at q
      exact ⟨l, _, rfl, DPut.k (ss.hh _ _ (hs.at j hj).1) (by rw [Paired.length hr, ← lim_eq]; exact hl), kk _ _ G3 _ ss.gg ((hs.stp ss).set j hj) ((hr.mono ss.gg).put z (R.mono s'.gg r)) (.mk q)⟩
    · rw [if_neg hl] at q; exact q.elim) fun _ _ z => z)⟩) fun _ _ z => z)
/-- the cell holds the dict, locked or not -/
def CellD (c : HO) (vs : List (Key × V)) : Prop := c = .dK vs ∨ ∃ od, c = .frz od (.dK vs)
theorem CellD.rd {c : HO} {vs : List (Key × V)} (h : CellD c vs) {l : Addr} (e : H l = some c) : Rd H l (.dK vs) := by
  rcases h with h | ⟨od, h⟩
  · subst h; exact .inl e
  · subst h; exact .inr ⟨od, e⟩
theorem e_lenD {i : Nat} {l : Addr} {k : Ke κ} {R : Rp β} {vs : List (Key × V)} {xs : List (κ × β)} (h : σ[i]? = some (some (.ref l))) (hl : (l, HO.dK vs) ∈ O) (r : RKs k R K G vs xs) :
    EvE K fm (tCB (fun xs H Q => ∃ a kvs, xs = [V.ref a] ∧ H a = some (.dK kvs) ∧ Q (.int kvs.length) H) (tCons (tVar i) tNil)) σ G O zI (.ok (xs.length : Int)) := fun G1 H1 e kn Q q =>
  ⟨_, h, l, vs, rfl, kn.own _ hl, q _ G1 H1 (Stp.refl kn.gh) (by show V.int _ = V.int _; rw [Paired.length r])⟩
def dgetM {κ β : Type} [DecidableEq κ] (xs : List (κ × β)) (n : Res κ) : Res β := n.bind fun k => optM (dget xs k)
theorem e_dget {i : Nat} {l : Addr} {c : HO} {k : Ke κ} {R : Rp β} {vs : List (Key × V)} {xs : List (κ × β)} {n : Res κ} (h : σ[i]? = some (some (.ref l))) (hl : (l, c) ∈ O) (hc : CellD c vs) (r : RKs k R K G vs xs) (hi : EvE K fm ta σ G O k.rp n) :
    EvE K fm (tDGet (tVar i) ta) σ G O R (dgetM xs n) := fun G1 H1 e kn Q q =>
  ⟨_, h, hi G1 H1 e kn _ (Res.wp_mono (Res.wp_bind q) (fun y q v G2 H2 s rv => by
    rw [k.is.mp rv]
    have g := r.get y
    cases eg : dget xs y with
    | none => rw [eg] at q; exact q.elim
    | some b =>
      rw [eg] at q g
      obtain ⟨w, hw, rw'⟩ := g
      exact ⟨l, w, rfl, .inl ⟨vs, k.enc y, hc.rd ((kn.stp s).own _ hl), rfl, hw.symm⟩, q w G2 H2 s (R.mono (e.trans s.gg) rw')⟩) fun _ _ z => z)⟩
def dinM {κ β : Type} [DecidableEq κ] (xs : List (κ × β)) (n : Res κ) : Res Bool := n.bind fun k => .ok (dget xs k).isSome
theorem e_din {i : Nat} {l : Addr} {c : HO} {k : Ke κ} {R : Rp β} {vs : List (Key × V)} {xs : List (κ × β)} {n : Res κ} (h : σ[i]? = some (some (.ref l))) (hl : (l, c) ∈ O) (hc : CellD c vs) (r : RKs k R K G vs xs) (hi : EvE K fm ta σ G O k.rp n) :
    EvE K fm (tDIn ta (tVar i)) σ G O rB (dinM xs n) := fun G1 H1 e kn Q q =>
  hi G1 H1 e kn _ (Res.wp_mono (Res.wp_bind q) (fun y q v G2 H2 s rv => ⟨_, h, l, valV vs (k.enc y), rfl, .inl ⟨vs, k.enc y, hc.rd ((kn.stp s).own _ hl), k.is.mp rv, rfl⟩, q _ G2 H2 s (by show V.bl _ = V.bl _; rw [r.isSome])⟩) fun _ _ z => z)
theorem e_dnin {i : Nat} {l : Addr} {c : HO} {k : Ke κ} {R : Rp β} {vs : List (Key × V)} {xs : List (κ × β)} {n : Res κ} (h : σ[i]? = some (some (.ref l))) (hl : (l, c) ∈ O) (hc : CellD c vs) (r : RKs k R K G vs xs) (hi : EvE K fm ta σ G O k.rp n) :
    EvE K fm (tDNotIn ta (tVar i)) σ G O rB (notM (dinM xs n)) := fun G1 H1 e kn Q q =>
  hi G1 H1 e kn _ (Res.wp_mono (Res.wp_bind (Res.wp_bind q)) (fun y q v G2 H2 s rv => ⟨_, h, l, valV vs (k.enc y), rfl, .inl ⟨vs, k.enc y, hc.rd ((kn.stp s).own _ hl), k.is.mp rv, rfl⟩, q _ G2 H2 s (by show V.bl _ = V.bl _; rw [r.isSome])⟩) fun _ _ z => z)
/-! for k in d -/
theorem itk_ok {l : Addr} {od : Obj} {k : Ke κ} {R : Rp β} {vs : List (Key × V)} {xs : List (κ × β)} (r : RKs k R K G vs xs) : ItOk K G [(l, .frz od (.dK vs))] k.rp (Itk l od vs) (xs.map (·.1)) where
  go := fun i G1 H a b ho hi => ⟨ho _ List.mem_cons_self, by rw [Paired.length r]; simpa using hi⟩
  stop := fun G1 H a b ho => ⟨ho _ List.mem_cons_self, by rw [Paired.length r]; simp⟩
  yld := fun i G1 H v H' a b ho hi y => by
    obtain ⟨e, kk, w, hk, ev⟩ := y
    subst e ev
    obtain ⟨x, hx, q, _⟩ := paired_get r hk
    exact ⟨x.1, G1, by rw [List.getElem?_map, hx]; rfl, Stp.refl b, k.is.mpr (by rw [← q])⟩
theorem w_lockM {S : Type} {i : Nat} (j : Nat) {d : Addr} {k : Ke κ} {R : Rp β} {vs : List (Key × V)} {xs : List (κ × β)} {g : TG} {Ss : Rps κ} {is : List Nat} {f : κ → S → Res S} {mk : S → Res ρ} {s0 : S} (W : Obj → S → L2.St → Hp → Own → Prop)
    (hx : σ[i]? = some (some (.ref d))) (hj : O[j]? = some (d, .dK vs)) (hr : RKs k R K G vs xs) (tg : Tgt K g k.rp Ss is) (hs : Hs fm G O H) (hm : Wp (((Res.ok (xs.map (·.1))).bind fun ks => forM f ks s0).bind mk) Q fm.xw)
    (hW : ∀ od s σ G O, W od s σ G O → O[j]? = some (d, .frz od (.dK vs))) (h0 : ∀ od, W od s0 σ G (O.set j (d, .frz od (.dK vs))))
    (hb : ∀ od x s σ' G1 G' O' H' vs (D' : Ends) (Qb : S → Prop), Same G G' → W od s σ' G1 O' → Same G1 G' → Hs fm G' O' H' → Ss.r K G' vs x → MEnds fm G' (W od) Qb D' → Wp (f x s) Qb fm.xw → tw D' (setL σ' is vs) H')
    (hn : ∀ od s σ' G1 G' O' H', Same G G' → W od s σ' G1 O' → Same G1 G' → Hs fm G' (O'.set j (d, .dK vs)) H' → Wp (mk s) Q fm.xw → tr D σ' H') : tSeq (tLock (tFor (iKeys (tVar i)) g tw)) tr D σ H := by
  refine ⟨d, .dK vs, (hs.at j hj).1, trivial, fun od => ?_⟩
  have hs1 := hs.set j (o' := .frz od (.dK vs)) hj
  have hj1 : (O.set j (d, HO.frz od (.dK vs)))[j]? = some (d, .frz od (.dK vs)) := List.getElem?_set_self (List.getElem?_eq_some_iff.mp hj).1
  have hi : EvI K fm (iKeys (tVar i)) σ G (O.set j (d, .frz od (.dK vs))) [(d, .frz od (.dK vs))] k.rp (Res.ok (xs.map (·.1))) := fun G1 H1 e kn Q q =>
    ⟨_, hx, d, od, rfl, .inl ⟨vs, kn.own _ (List.mem_of_getElem? hj1), q _ G1 H1 (Stp.refl kn.gh) (itk_ok (hr.mono e))⟩⟩
  have key := w_forM (K := K) (D := { nx := fun σ' H' => H' d = some (.frz od (.dK vs)) ∧ tr D σ' (upd H' d (.dK vs)), rt := fun v H' => H' d = some (.frz od (.dK vs)) ∧ D.rt v (upd H' d (.dK vs)), bk := fun σ' H' => H' d = some (.frz od (.dK vs)) ∧ D.bk σ' (upd H' d (.dK vs)), ct := fun σ' H' => H' d = some (.frz od (.dK vs)) ∧ D.ct σ' (upd H' d (.dK vs)) })
    (tr := tNext) (tw := tw) (W od) hi (fun s σ G O w p hp => by
      rw [List.mem_singleton.mp hp]
      exact List.mem_of_getElem? (hW od s σ G O w)) tg hs1 hm (h0 od) (hb od) fun s σ' G1 G' O' H' a w c hs' q => by
      have hj' := hW od s σ' G1 O' w
      exact ⟨(hs'.at j hj').1, hn od s σ' G1 G' O' _ a w c (hs'.set j hj') q⟩
  exact key
end
end Mw

namespace Mw
open PySem PySem.Spec PyProof.Rows L2
/-! ### a list that the callee has made -/
def rF {α : Type} (F : Hp) (R : Rp α) : Rp (List α) := ⟨fun K G v xs => ∃ p vs, v = .ref p ∧ F p = none ∧ G p = some (.lst vs) ∧ RLs R K G vs xs, fun e ⟨p, vs, a, b, c, d⟩ => ⟨p, vs, a, b, e _ _ c, d.mono e⟩⟩
/-- a result that may tell what is new since the entry -/
def Anti {β : Type} (Rf : Hp → Rp β) : Prop := ∀ F F' K G v y, Same F F' → (Rf F').r K G v y → (Rf F).r K G v y
def spPF {α β : Type} (K : PySem.W.Frag) (cl : Nat → Addr) (S : Rps α) (Rf : Hp → Rp β) (f : α → Res β) : Sp := fun vs H Q E => ∃ G a, Same G H ∧ S.r K G vs a ∧
  Wp (f a) (fun y => ∀ v G' H', Stp G H G' H' → (Rf H).r K G' v y → Q v H') (fun c fs => ∀ H' d, Same H H' → XdOk fs d H' → E (.ref (cl c)) d H')
theorem an_F {α : Type} {R : Rp α} : Anti fun F => rF F R := fun F F' K G v y e ⟨p, vs, a, b, c, d⟩ => ⟨p, vs, a, same_back e b, c, d⟩
theorem an_R {α : Type} {R : Rp α} : Anti fun _ => R := fun F F' K G v y e h => h
theorem an_P2 {α β : Type} {R : Hp → Rp α} {S : Hp → Rp β} (h1 : Anti R) (h2 : Anti S) : Anti fun F => rP2 (R F) (S F) := fun F F' K G v y e ⟨p, vs, a, b, v1, r, c, d, v2, f, g⟩ => ⟨p, vs, a, b, v1, r, c, h1 F F' K G _ _ e d, v2, f, h2 F F' K G _ _ e g⟩
section
variable {α β γ δ ρ : Type} {K : PySem.W.Frag} {fm : Fm} {σ : L2.St} {G G' H H' : Hp} {O : Own}
variable {te ta tb tc : TE} {R : Rp α} {S : Rp β} {T : Rp γ} {m : Res α} {n : Res β}
variable {D : Ends} {tr tt tu tw : TS} {Q : ρ → Prop}
theorem e_callF {S : Rps α} {f : α → Res β} {Rf : Hp → Rp β} {t : TA} (an : Anti Rf) (h : EvA K fm t σ G O S m) : EvE K fm (tCall (spPF K fm.cl S Rf f) [] fm.E t) σ G O (Rf fm.F) (m.bind f) := fun G1 H1 e k Q q =>
  h G1 H1 e k _ (Res.wp_mono (Res.wp_bind q) (fun x q vs G2 H2 s r => ⟨G2, x, s.gh, by rw [List.append_nil]; exact r,
    .mk (Res.wp_mono q (fun y q v G3 H3 s' rv => q v G3 H3 (s.trans s') (an _ _ _ _ _ _ (k.stp s).fr rv)) fun c fs z H' d a b => z H' d ((k.stp s).fr.trans a) b)⟩) fun _ _ z => z)
theorem rF_rK {F : Hp} {v : V} {xs : List α} (h : (rF F R).r K G v xs) : (rK R).r K G v xs := by
  obtain ⟨p, vs, a, b, c, d⟩ := h
  exact ⟨p, vs, a, c, d⟩
theorem e_FK {F : Hp} {m : Res (List α)} (h : EvE K fm te σ G O (rF F R) m) : EvE K fm te σ G O (rK R) m := fun G1 H1 e k Q q =>
  h G1 H1 e k Q (Res.wp_mono q (fun xs q v G2 H2 s r => q v G2 H2 s (rF_rK r)) fun _ _ z => z)
/-- from the promise that tells more -/
theorem spPF_imp {cl : Nat → Addr} {S : Rps α} {f : α → Res β} {Rf : Hp → Rp β} {R' : Rp β} (h : ∀ F K G v y, (Rf F).r K G v y → R'.r K G v y) (vs : List V) (H : Hp) (Q : VK) (E : XK) (q : spP K cl S R' f vs H Q E) : spPF K cl S Rf f vs H Q E := by
  obtain ⟨G, a, g, s, w⟩ := q
  exact ⟨G, a, g, s, .mk (Res.wp_mono w.out (fun y q v G' H' st r => q v G' H' st (h _ _ _ _ _ r)) fun _ _ z => z)⟩
/-! ### a pair of a word and a list that is one's own from then on -/
theorem w_told {i : Nat} {S : Rps α} {f : α → Res (γ × List β)} {Rl : Rp β} {Rw : Rp γ} {t : TA} {mk : γ × List β → Res ρ} (sw : Sc Rw) (sl : Sc Rl) (h : EvA K fm t σ G O S m) (hs : Hs fm G O H) (hm : Wp ((m.bind f).bind mk) Q fm.xw)
    (k : ∀ y v1 l vs p G' H', Same G G' → Hs fm G' ((l, .lst vs) :: O) H' → SqT K G' p [v1, .ref l] → Rw.r K G' v1 y.1 → RLs Rl K G' vs y.2 → Wp (mk y) Q fm.xw → tr D (σ.set i (some (.ref p))) H') :
    tSeq (tAsg (tCall (spPF K fm.cl S (fun F => rP2 Rw (rF F Rl)) f) [] fm.E t) (gName i)) tr D σ H :=
  h G H (Same.refl _) hs.kn _ (Res.wp_mono (Res.wp_bind (Res.wp_bind hm.out)) (fun x q vs G2 H2 s r => ⟨G2, x, s.gh, by rw [List.append_nil]; exact r,
    Wp.mk (Res.wp_mono q (fun y q v G3 H3 s' rv => by
      obtain ⟨p, ws, rfl, hT, v1, r1, e1, hw, v2, e2, l, us, rfl, hl, hG, rl⟩ := rv
      subst e1 e2
      have ss := s.trans s'
      have g2l : G2 l = none := same_back s.gh hl
      have hne : ∀ b o, G2 b = some o → b ≠ l := fun b o z => ne_of_none z g2l
      have hT' : SqT K (fun b => if b = l then none else G3 b) p [v1, .ref l] := by
        rcases hT with hT | hT
        · refine .inl ?_
          have np : p ≠ l := by
            rintro rfl
            rcases hT with hT | ⟨o, hT⟩ <;> rw [hG] at hT <;> cases hT
          rcases hT with hT | ⟨o, hT⟩
          · exact .inl (by show (if p = l then none else G3 p) = _; rw [if_neg np]; exact hT)
          · exact .inr ⟨o, by show (if p = l then none else G3 p) = _; rw [if_neg np]; exact hT⟩
        · exact .inr hT
      have st : Stp G H (fun b => if b = l then none else G3 b) H3 := ⟨ss.hh, fun b o z => by
          show (if b = l then none else G3 b) = _
          rw [if_neg (hne b o (s.gg b o z))]; exact ss.gg b o z, fun b o z => by
          by_cases e : b = l
          · subst e; rw [if_pos rfl] at z; cases z
          · rw [if_neg e] at z; exact ss.gh b o z, fun b o z => by
          show (if b = l then none else G3 b) = _
          have : b ≠ l := by rintro rfl; have := s.hh _ _ z; rw [hl] at this; cases this
          rw [if_neg this]; exact ss.old b o z⟩
      exact k y v1 l us p _ H3 st.gg (hs.new st (same_back s.hh hl) (if_pos rfl) (s'.gh _ _ hG)) hT' (sw _ _ _ _ _ hw) (Paired.mapP rl fun _ _ q => sl _ _ _ _ _ q) (.mk q)) fun c fs z H' d a b => z H' d ((hs.kn.stp s).fr.trans a) b)⟩) fun _ _ z => z)
theorem told_rep {Rl : Rp β} {Rw : Rp γ} {y : γ × List β} {v1 : V} {l p : Addr} {vs : List V} (hT : SqT K G p [v1, .ref l]) (hw : Rw.r K G v1 y.1) (hG : G l = some (.lst vs)) (r : RLs Rl K G vs y.2) : (rP2 Rw (rK Rl)).r K G (.ref p) y :=
  ⟨p, _, rfl, hT, v1, _, rfl, hw, _, rfl, l, vs, rfl, hG, r⟩
/-- told[1].append(e) -/
theorem w_appAt {i : Nat} (j : Nat) {l p : Addr} {v1 : V} {vs : List V} {xs : List α} {m : Res α} {mk : List α → Res ρ} (hx : σ[i]? = some (some (.ref p))) (hT : SqT K G p [v1, .ref l]) (hj : O[j]? = some (l, .lst vs)) (hr : RLs R K G vs xs) (he : EvE K fm te σ G O R m) (hs : Hs fm G O H)
    (hm : Wp (appM xs m mk) Q fm.xw)
    (k : ∀ y v G' H', Same G G' → Hs fm G' (O.set j (l, .lst (vs ++ [v]))) H' → RLs R K G' (vs ++ [v]) (xs ++ [y]) → Wp (mk (xs ++ [y])) Q fm.xw → tr D σ H') :
    tSeq (tDrop (tBM K "list" rAppend (tOp (rIxT K) (tVar i) (tC (.int 1))) (tCons te tNil))) tr D σ H :=
  ⟨_, hx, p, _, 1, .ref l, rfl, rfl, same_t hs.gh hT, rfl, .inl ⟨rfl, vs, SqL.of (hs.at j hj).1⟩, he G H (Same.refl _) hs.kn _ (Res.wp_mono (Res.wp_bind (f := fun y => if xs.length < lim then mk (xs ++ [y]) else .stuck) hm.out) (fun y q v G2 H2 s r => by
    by_cases hl : xs.length < lim
    · rw [if_pos hl] at q
      exact ⟨l, vs, v, rfl, rfl, s.hh _ _ (hs.at j hj).1, by rw [Paired.length hr, ← lim_eq]; exact hl, k y v G2 _ s.gg ((hs.stp s).set j hj) (paired_app (hr.mono s.gg) (.cons r .nil)) (.mk q)⟩
    · rw [if_neg hl] at q; exact q.elim) fun _ _ z => z)⟩

/-! ### try: .. except GatesError as e: return [isinstance(e, A), .., True].index(True) -/
def tryM {α ρ : Type} (m : Res α) (h : Nat → List (Str × V) → Res ρ) (k : α → Res ρ) : Res ρ :=
  match m with
  | .ok a => k a
  | .exc c fs => h c fs
  | .stuck => .stuck
@[simp] theorem tryM_ok {α ρ : Type} (a : α) (h : Nat → List (Str × V) → Res ρ) (k : α → Res ρ) : tryM (.ok a) h k = k a := rfl
@[simp] theorem tryM_exc {α ρ : Type} (c fs) (h : Nat → List (Str × V) → Res ρ) (k : α → Res ρ) : tryM (.exc c fs) h k = h c fs := rfl
/-- the items isinstance(e, C), .. and True -/
def tIs (K : PySem.W.Frag) (i : Nat) (a C : Addr) : List Addr → TA
  | [] => tCons (tC (.bl true)) tNil
  | c :: cs => tCons (tCB (rIsE K C a) (tCons (tVar i) (tCons (tC (.ref c)) tNil))) (tIs K i a C cs)
def firstT : List Bool → Nat
  | [] => 0
  | b :: bs => if b = true then 0 else firstT bs + 1
theorem tIs_run {i : Nat} {a C : Addr} : ∀ {cs : List Addr} {bs : List Bool} {σ : L2.St} {H : Hp} {Q : List V → Hp → Prop}, σ[i]? = some (some (.ref a)) → Paired (fun c b => PySem.W.kitOne K (.ref C) (.ref c) = some b) cs bs → Q ((bs.map V.bl) ++ [.bl true]) H → tIs K i a C cs σ H Q
  | _, _, σ, H, Q, hx, .nil, q => q
  | _, _, σ, H, Q, hx, .cons (b := b) h t, q => ⟨_, hx, .ref _, .ref _, b, rfl, fun u e => e, h, tIs_run (Q := fun xs H2 => Q (.bl b :: xs) H2) hx t q⟩
def tIdx (K : PySem.W.Frag) (i : Nat) (a C : Addr) (cs : List Addr) : TS := tSeq (tRet (tBM K "list" (rIndex K) (tLst (tIs K i a C cs)) (tCons (tC (.bl true)) tNil))) tNext
theorem firstT_at : ∀ bs : List Bool, (bs.map V.bl ++ [V.bl true])[firstT bs]? = some (.bl true)
  | [] => rfl
  | b :: bs => by
    unfold firstT
    split
    · rename_i h; subst h; rfl
    · simpa using firstT_at bs
theorem firstT_lt : ∀ (bs : List Bool) (m : Nat) (z : V), m < firstT bs → (bs.map V.bl ++ [V.bl true])[m]? = some z → eqV z (.bl true) = false
  | [], m, z, h, e => absurd h (by simp [firstT])
  | b :: bs, m, z, h, e => by
    unfold firstT at h
    split at h
    · exact absurd h (Nat.not_lt_zero _)
    · rename_i hb
      cases m with
      | zero =>
        have : z = .bl b := by simpa using e.symm
        subst this
        cases b
        · rfl
        · exact absurd rfl hb
      | succ m => exact firstT_lt bs m z (by omega) (by simpa using e)
theorem firstT_len : ∀ bs : List Bool, firstT bs ≤ bs.length
  | [] => Nat.le_refl _
  | b :: bs => by
    unfold firstT
    split
    · exact Nat.zero_le _
    · exact Nat.succ_le_succ (firstT_len bs)
theorem tIdx_run {i : Nat} {a C : Addr} {cs : List Addr} {bs : List Bool} {σ : L2.St} {H : Hp} (hx : σ[i]? = some (some (.ref a))) (h : Paired (fun c b => PySem.W.kitOne K (.ref C) (.ref c) = some b) cs bs) (hn : bs.length < 1000)
    (q : ∀ H', Same H H' → D.rt (.int (firstT bs : Nat)) H') : tIdx K i a C cs D σ H := by
  refine tIs_run (K := K) hx h ⟨?_, fun p hp => ⟨.inl ⟨rfl, _, SqL.of upd_same⟩, p, _, .bl true, firstT bs, .bl true, rfl, rfl, SqL.of upd_same, rfl, ?_, firstT_at bs, rfl, firstT_lt bs, q _ (same_new hp)⟩⟩
  · rw [sizeLine_eq]; simp; omega
  · rw [List.all_eq_true]
    intro x hx
    rcases List.mem_append.mp hx with hx | hx
    · obtain ⟨b, _, e⟩ := List.mem_map.mp hx
      rw [← e]; rfl
    · rw [List.mem_singleton.mp hx]; rfl
/-- the suite's reading, by the class of what is caught -/
noncomputable def tSui (K : PySem.W.Frag) (i : Nat) (cl : Nat → Addr) (n : Nat) (cs : List Addr) (a : Addr) (cls : Value) (d : Option Addr) : TS := by
  classical exact if h : d = none ∧ ∃ k, k < n ∧ cls = .ref (cl k) then tIdx K i a (cl h.2.choose) cs else tNever
theorem tSui_eq {i : Nat} {cl : Nat → Addr} {n : Nat} {cs : List Addr} {a : Addr} {k : Nat} (hk : k < n) : tSui K i cl n cs a (.ref (cl k)) none = tIdx K i a (cl k) cs := by
  unfold tSui
  have h : (none : Option Addr) = none ∧ ∃ j, j < n ∧ Value.ref (cl k) = .ref (cl j) := ⟨rfl, k, hk, rfl⟩
  rw [dif_pos h]
  have e := h.2.choose_spec.2
  injection e with e
  rw [← e]
theorem tSui_ok {X : Cx} {i : Nat} {cl : Nat → Addr} {n : Nat} {cs : List Addr} {sts : List Stmt} (hd : ∀ (a : Addr) (oe : Obj) (k : Nat) (pn : List (Addr × Obj)), k < n → Zc (.ref (cl k)) none oe → (∃ vs, oe.data = .fields vs) → PSs (X.suite a ((a, oe) :: pn)) sts (tIdx X.K i a (cl k) cs))
    (a : Addr) (oe : Obj) (cls : Value) (d : Option Addr) (pn : List (Addr × Obj)) (hz : Zc cls d oe) (hf : ∃ vs, oe.data = .fields vs) : PSs (X.suite a ((a, oe) :: pn)) sts (tSui X.K i cl n cs a cls d) := by
  classical
  unfold tSui
  split
  · rename_i h
    obtain ⟨hk, e⟩ := h.2.choose_spec
    obtain ⟨rfl, _⟩ := h
    exact hd a oe _ pn hk (by rw [← e]; exact hz) hf
  · exact pss_never
theorem Hs.withE {E' : XK} (h : Hs fm G O H) : Hs { fm with E := E' } G O H := ⟨h.fr, h.g0, h.gh, h.old, h.own, h.nd⟩
theorem e_callS {S : Rps α} {f : α → Res β} {R : Rp β} {t : TA} {Ew : L2.St → XK} (hE : Ew σ = fm.E) (h : EvA K fm t σ G O S m) : EvE K fm (tCallS (spP K fm.cl S R f) Ew t) σ G O R (m.bind f) := fun G1 H1 e k Q q =>
  h G1 H1 e k _ (Res.wp_mono (Res.wp_bind q) (fun x q vs G2 H2 s r => ⟨G2, x, s.gh, r,
    .mk (Res.wp_mono q (fun y q v G3 H3 s' rv => q v G3 H3 (s.trans s') rv) fun c fs z H' d a b => by
      rw [hE]
      exact z H' d ((k.stp s).fr.trans a) b)⟩) fun _ _ z => z)
theorem e_callSF {S : Rps α} {f : α → Res β} {Rf : Hp → Rp β} {t : TA} {Ew : L2.St → XK} (an : Anti Rf) (hE : Ew σ = fm.E) (h : EvA K fm t σ G O S m) : EvE K fm (tCallS (spPF K fm.cl S Rf f) Ew t) σ G O (Rf fm.F) (m.bind f) := fun G1 H1 e k Q q =>
  h G1 H1 e k _ (Res.wp_mono (Res.wp_bind q) (fun x q vs G2 H2 s r => ⟨G2, x, s.gh, r,
    .mk (Res.wp_mono q (fun y q v G3 H3 s' rv => q v G3 H3 (s.trans s') (an _ _ _ _ _ _ (k.stp s).fr rv)) fun c fs z H' d a b => by
      rw [hE]
      exact z H' d ((k.stp s).fr.trans a) b)⟩) fun _ _ z => z)
theorem Hs.sr (h : Hs fm G O H) : Same G G := Same.refl G
/-- by the class: the place in the handler's list -/
def errM {ρ : Type} (n : Nat) (f : Nat → Res ρ) (c : Nat) (fs : List (Str × V)) : Res ρ := if c < n ∧ fs = [] then f c else .stuck
def tTry (tb : WX → TS) (K : PySem.W.Frag) (c : Value) (i : Nat) (ts : Addr → Value → Option Addr → TS) (Wout : WX) : TS := fun D σ H => tb (wAs K c i ts Wout D) D σ H
theorem w_try {tb : WX → TS} {Wout : WX} {c : Value} {i nn : Nat} {cs : List Addr} {bs : Nat → List Bool} {mb : Res Unit} {hd : Nat → Res ρ} {rest : Res ρ}
    (hs : Hs fm G O H) (hm : Wp (tryM mb (errM nn hd) (fun _ => rest)) Q fm.xw) (hi : i < σ.length)
    (hex : ∀ k, k < nn → PySem.W.exmOne K (.ref (fm.cl k)) c = some true)
    (hkit : ∀ k, k < nn → Paired (fun c b => PySem.W.kitOne K (.ref (fm.cl k)) (.ref c) = some b) cs (bs k)) (hlen : ∀ k, k < nn → (bs k).length < 1000)
    (hret : ∀ k H', k < nn → Same fm.F H' → Wp (hd k) Q fm.xw → D.rt (.int (firstT (bs k) : Nat)) H')
    (hb : ∀ (D' : Ends) (Qb : Unit → Prop) (W : WX), (∀ G' H', Same G G' → Hs fm G' O H' → Qb () → D'.nx σ H') → Hs { fm with E := WE W σ } G O H → Wp mb Qb ({ fm with E := WE W σ } : Fm).xw → tb W D' σ H)
    (hn : ∀ G' H', Same G G' → Hs fm G' O H' → Wp rest Q fm.xw → tr D σ H') : tSeq (tTry tb K c i (tSui K i fm.cl nn cs) Wout) tr D σ H := by
  refine hb _ (fun _ => Wp rest Q fm.xw) _ (fun G' H' a b q => hn G' H' a b q) hs.withE (.mk ?_)
  have q := hm.out
  cases mb with
  | ok u => exact .mk q
  | stuck => exact q
  | exc k fs =>
    have q' : (errM nn hd k fs).wp Q fm.xw := q
    unfold errM at q'
    split at q'
    · rename_i hk
      obtain ⟨hk, rfl⟩ := hk
      intro H' d e hd'
      cases (show d = none from hd')
      refine ⟨true, hex k hk, fun _ a ha => ?_, fun z => nomatch z⟩
      rw [tSui_eq hk]
      exact tIdx_run (List.getElem?_set_self hi) (hkit k hk) (hlen k hk) fun H2 e2 => hret k H2 hk (e.trans e2) (.mk q')
    · exact q'.elim
theorem e_FP2 {F : Hp} {m : Res (β × List α)} (h : EvE K fm te σ G O (rP2 S (rF F R)) m) : EvE K fm te σ G O (rP2 S (rK R)) m := fun G1 H1 e k Q q =>
  h G1 H1 e k Q (Res.wp_mono q (fun xs q v G2 H2 s r => q v G2 H2 s (by
    obtain ⟨p, vs, a, b, v1, r1, c, d, v2, f, g⟩ := r
    exact ⟨p, vs, a, b, v1, r1, c, d, v2, f, rF_rK g⟩)) fun _ _ z => z)
theorem nn_F {F : Hp} : Nn (rF F R) := fun _ _ v x ⟨p, vs, h, _⟩ => by cases h; simp
end
end Mw

namespace Mw
open PySem PySem.Spec PyProof.Rows L2
/-! ### what evaluates to one value and leaves all as it is: names, fields -/
def EvV (fm : Fm) (te : TE) (σ : L2.St) (G : Hp) (O : Own) (v : V) : Prop := ∀ G1 H1, Same G G1 → Kn fm G1 O H1 → ∀ Q : VK, Q v H1 → te σ H1 Q
/-- a tuple made here, of keys: what the layer takes as a key -/
structure Kt (κ : Type) [DecidableEq κ] where
  enc : κ → List Key
  inj : ∀ {a b}, enc a = enc b → a = b
def rX {κ : Type} [DecidableEq κ] (k : Kt κ) : Rp κ := ⟨fun _ G v x => ∃ p, v = .ref p ∧ G p = some (.tup ((k.enc x).map kV)), fun e ⟨p, h, g⟩ => ⟨p, h, e _ _ g⟩⟩
def kt3 : Kt (Int × Int × Int) := ⟨fun x => [.inl x.1, .inl x.2.1, .inl x.2.2], fun {a b} h => by
  injection h with h1 h
  injection h with h2 h
  injection h with h3 h
  cases a; cases b
  simp only [Prod.mk.injEq]
  rename_i x y u v
  obtain ⟨y1, y2⟩ := y
  obtain ⟨v1, v2⟩ := v
  exact ⟨Sum.inl.inj h1, by simpa using ⟨Sum.inl.inj h2, Sum.inl.inj h3⟩⟩⟩
section
variable {α β γ δ ρ κ : Type} [DecidableEq κ] {K : PySem.W.Frag} {fm : Fm} {σ : L2.St} {G G' H H' : Hp} {O : Own}
variable {te ta tb tc : TE} {R : Rp α} {S : Rp β} {T : Rp γ} {m : Res α} {n : Res β}
variable {D : Ends} {tr tt tu tw : TS} {Q : ρ → Prop}
theorem EvV.mono {v : V} (e : Same G G') (h : EvV fm te σ G O v) : EvV fm te σ G' O v := fun G1 H1 a k Q q => h G1 H1 (e.trans a) k Q q
theorem v_var {i : Nat} {v : V} (h : σ[i]? = some (some v)) : EvV fm (tVar i) σ G O v := fun G1 H1 e k Q q => ⟨v, h, q⟩
theorem v_fld {p C dx : Addr} {fs : List (Str × V)} {f : Str} {v : V} (h : EvV fm te σ G O (.ref p)) (ho : (p, .ins C dx fs) ∈ O) (c : Cls K C) (na : NoAttr K C f) (l : fs.lookup f = some v) : EvV fm (tFld K te f) σ G O v :=
  fun G1 H1 e k Q q => h G1 H1 e k _ ⟨p, C, dx, fs, v, rfl, k.own _ ho, c, na, l, q⟩
theorem e_val {v : V} {x : α} (h : EvV fm te σ G O v) (r : R.r K G v x) : EvE K fm te σ G O R (.ok x) := fun G1 H1 e k Q q =>
  h G1 H1 e k _ (q v G1 H1 (Stp.refl k.gh) (R.mono e r))
theorem e_lenV {l : Addr} {vs : List V} {xs : List α} (h : EvV fm te σ G O (.ref l)) (hl : (l, HO.lst vs) ∈ O) (r : RLs R K G vs xs) : EvE K fm (tCB (rLen K) (tCons te tNil)) σ G O zI (lenM (.ok xs)) := fun G1 H1 e k Q q =>
  h G1 H1 e k _ ⟨_, xs.length, rfl, .inl ⟨vs, SqL.of (k.own _ hl), (Paired.length r).symm⟩, q _ G1 H1 (Stp.refl k.gh) rfl⟩
theorem e_ixV {l : Addr} {vs : List V} {xs : List α} {n : Res Int} (h : EvV fm te σ G O (.ref l)) (hl : (l, HO.lst vs) ∈ O) (r : RLs R K G vs xs) (hb : EvE K fm tb σ G O zI n) : EvE K fm (tOp (rIxL K) te tb) σ G O R (idxM (.ok xs) n) := fun G1 H1 e k Q q =>
  h G1 H1 e k _ (hb G1 H1 e k _ (Res.wp_mono (Res.wp_bind (m := n) (f := fun j => optM (atI xs j)) q) (fun j q v G2 H2 s rv => by
    cases (show v = .int j from rv)
    cases ea : atI xs j with
    | none => rw [ea] at q; exact q.elim
    | some y =>
      rw [ea] at q
      obtain ⟨w, ew, rw'⟩ := paired_at r ea
      exact ⟨l, vs, j, w, rfl, rfl, SqL.of ((k.stp s).own _ hl), ew, q w G2 H2 s (R.mono (e.trans s.gg) rw')⟩) fun _ _ z => z))
theorem w_appV (j : Nat) {l : Addr} {vs : List V} {xs : List α} {m : Res α} {mk : List α → Res ρ} (hx : EvV fm tb σ G O (.ref l)) (hj : O[j]? = some (l, .lst vs)) (hr : RLs R K G vs xs) (he : EvE K fm te σ G O R m) (hs : Hs fm G O H)
    (hm : Wp (appM xs m mk) Q fm.xw)
    (k : ∀ y v G' H', Same G G' → Hs fm G' (O.set j (l, .lst (vs ++ [v]))) H' → R.r K G' v y → RLs R K G' (vs ++ [v]) (xs ++ [y]) → Wp (mk (xs ++ [y])) Q fm.xw → tr D σ H') : tSeq (tDrop (tBM K "list" rAppend tb (tCons te tNil))) tr D σ H :=
  hx G H (Same.refl _) hs.kn _ ⟨.inl ⟨rfl, vs, SqL.of (hs.at j hj).1⟩, he G H (Same.refl _) hs.kn _ (Res.wp_mono (Res.wp_bind (f := fun y => if xs.length < lim then mk (xs ++ [y]) else .stuck) hm.out) (fun y q v G2 H2 s r => by
    by_cases hl : xs.length < lim
    · rw [if_pos hl] at q
      exact ⟨l, vs, v, rfl, rfl, s.hh _ _ (hs.at j hj).1, by rw [Paired.length hr, ← lim_eq]; exact hl, k y v G2 _ s.gg ((hs.stp s).set j hj) r (paired_app (hr.mono s.gg) (.cons r .nil)) (.mk q)⟩
    · rw [if_neg hl] at q; exact q.elim) fun _ _ z => z)⟩
/-! ### dicts whose keys are tuples -/
abbrev RKt (k : Kt κ) (R : Rp β) (K : PySem.W.Frag) (G : Hp) : List (List Key × V) → List (κ × β) → Prop := Paired fun p x => p.1 = k.enc x.1 ∧ R.r K G p.2 x.2
theorem RKt.mono {k : Kt κ} {R : Rp β} {vs : List (List Key × V)} {xs : List (κ × β)} (e : Same G G') (h : RKt k R K G vs xs) : RKt k R K G' vs xs := Paired.mapP h fun _ _ q => ⟨q.1, R.mono e q.2⟩
theorem RKt.any {k : Kt κ} {R : Rp β} {vs : List (List Key × V)} {xs : List (κ × β)} (h : RKt k R K G vs xs) (y : κ) : (vs.any fun p => decide (p.1 = k.enc y)) = xs.any fun p => decide (p.1 = y) := by
  induction h with
  | nil => rfl
  | cons r t ih => rw [List.any_cons, List.any_cons, ih, r.1]; congr 1; exact decide_eq_decide.mpr ⟨k.inj, fun e => by rw [e]⟩
theorem RKt.get {k : Kt κ} {R : Rp β} {vs : List (List Key × V)} {xs : List (κ × β)} (h : RKt k R K G vs xs) (y : κ) :
    match dget xs y with | some b => ∃ v, valV vs (k.enc y) = some v ∧ R.r K G v b | none => valV vs (k.enc y) = none := by
  induction h with
  | nil => rfl
  | @cons p x vs xs r t ih =>
    by_cases e : x.1 = y
    · have : dget (x :: xs) y = some x.2 := by simp [dget, List.find?_cons, e]
      rw [this]
      exact ⟨p.2, valV_pos (r.1.trans (by rw [e])), r.2⟩
    · have : dget (x :: xs) y = dget xs y := by simp [dget, List.find?_cons, e]
      rw [this, valV_neg (fun q => e (k.inj (r.1.symm.trans q)))]
      exact ih
theorem RKt.isSome {k : Kt κ} {R : Rp β} {vs : List (List Key × V)} {xs : List (κ × β)} (h : RKt k R K G vs xs) (y : κ) : (valV vs (k.enc y)).isSome = (dget xs y).isSome := by
  have q := h.get y
  cases e : dget xs y with
  | none => rw [e] at q; rw [show valV vs (k.enc y) = none from q]; rfl
  | some b => rw [e] at q; obtain ⟨v, hv, _⟩ := q; rw [hv]; rfl
theorem RKt.rep {k : Kt κ} {R : Rp β} {vs : List (List Key × V)} {xs : List (κ × β)} (h : RKt k R K G vs xs) (y : κ) {v : V} {b : β} (r : R.r K G v b) :
    RKt k R K G (vs.map fun p => if p.1 = k.enc y then (p.1, v) else p) (xs.map fun p => if p.1 = y then (p.1, b) else p) := by
  induction h with
  | nil => exact .nil
  | @cons p x vs xs q t ih =>
    refine .cons ?_ ih
    by_cases e : x.1 = y
    · dsimp only; rw [if_pos e, if_pos (q.1.trans (by rw [e]))]; exact ⟨q.1, r⟩
    · dsimp only; rw [if_neg e, if_neg (fun z => e (k.inj (q.1.symm.trans z)))]; exact q
theorem RKt.put {k : Kt κ} {R : Rp β} {vs : List (List Key × V)} {xs : List (κ × β)} (h : RKt k R K G vs xs) (y : κ) {v : V} {b : β} (r : R.r K G v b) : RKt k R K G (putK vs (k.enc y) v) (dput xs y b) := by
  unfold putK dput
  rw [h.any y]
  split
  · exact RKt.rep h y r
  · exact paired_app h (.cons ⟨rfl, r⟩ .nil)
theorem e_dgetT {l : Addr} {k : Kt κ} {R : Rp β} {vs : List (List Key × V)} {xs : List (κ × β)} {n : Res κ} (h : EvV fm te σ G O (.ref l)) (hl : (l, HO.dT vs) ∈ O) (r : RKt k R K G vs xs) (hi : EvE K fm ta σ G O (rX k) n) :
    EvE K fm (tDGet te ta) σ G O R (dgetM xs n) := fun G1 H1 e kn Q q =>
  h G1 H1 e kn _ (hi G1 H1 e kn _ (Res.wp_mono (Res.wp_bind q) (fun y q v G2 H2 s rv => by
    obtain ⟨b, rfl, hb⟩ := rv
    have g := r.get y
    cases eg : dget xs y with
    | none => rw [eg] at q; exact q.elim
    | some x =>
      rw [eg] at q g
      obtain ⟨w, hw, rw'⟩ := g
      exact ⟨l, w, rfl, by rw [← hw]; exact DGet.t ((kn.stp s).own _ hl) (s.gh _ _ hb), q w G2 H2 s (R.mono (e.trans s.gg) rw')⟩) fun _ _ z => z))
theorem e_dninT {l : Addr} {k : Kt κ} {R : Rp β} {vs : List (List Key × V)} {xs : List (κ × β)} {n : Res κ} (h : EvV fm te σ G O (.ref l)) (hl : (l, HO.dT vs) ∈ O) (r : RKt k R K G vs xs) (hi : EvE K fm ta σ G O (rX k) n) :
    EvE K fm (tDNotIn ta te) σ G O rB (notM (dinM xs n)) := fun G1 H1 e kn Q q =>
  hi G1 H1 e kn _ (Res.wp_mono (Res.wp_bind (Res.wp_bind q)) (fun y q v G2 H2 s rv => by
    obtain ⟨b, rfl, hb⟩ := rv
    exact h G2 H2 (e.trans s.gg) (kn.stp s) _ ⟨l, valV vs (k.enc y), rfl, DGet.t ((kn.stp s).own _ hl) (s.gh _ _ hb), q _ G2 H2 s (by show V.bl _ = V.bl _; rw [r.isSome])⟩) fun _ _ z => z)
theorem w_dputT (j : Nat) {l : Addr} {k : Kt κ} {R : Rp β} {vs : List (List Key × V)} {xs : List (κ × β)} {m : Res β} {n : Res κ} {mk : List (κ × β) → Res ρ} (hx : EvV fm tb σ G O (.ref l)) (hj : O[j]? = some (l, .dT vs)) (hr : RKt k R K G vs xs)
    (he : EvE K fm te σ G O R m) (hi : EvE K fm ta σ G O (rX k) n) (hs : Hs fm G O H) (hm : Wp (dputM xs n m mk) Q fm.xw)
    (kk : ∀ ys ws G' H', Same G G' → Hs fm G' (O.set j (l, .dT ws)) H' → RKt k R K G' ws ys → Wp (mk ys) Q fm.xw → tr D σ H') : tSeq (sDPut tb ta te) tr D σ H :=
  he G H (Same.refl _) hs.kn _ (Res.wp_mono (Res.wp_bind hm.out) (fun y q v G2 H2 s r => hx G2 H2 s.gg (hs.stp s).kn _ (hi G2 H2 s.gg (hs.stp s).kn _ (Res.wp_mono (Res.wp_bind q) (fun z q v' G3 H3 s' r' => by
    have ss := s.trans s'
    obtain ⟨b, rfl, hb⟩ := r'
    by_cases hl : xs.length < lim
    · rw [if_pos hl] at q
      exact ⟨l, _, rfl, DPut.t (ss.hh _ _ (hs.at j hj).1) (s'.gh _ _ hb) (by rw [Paired.length hr, ← lim_eq]; exact hl), kk _ _ G3 _ ss.gg ((hs.stp ss).set j hj) ((hr.mono ss.gg).put z (R.mono s'.gg r)) (.mk q)⟩
    · rw [if_neg hl] at q; exact q.elim) fun _ _ z => z))) fun _ _ z => z)
end
end Mw

namespace Mw
open PySem PySem.Spec PyProof.Rows L2
/-! ### objects: own cells that a callee writes -/
/-- the heap without the cells of O -/
def without (O : Own) (H : Hp) : Hp := fun b => if b ∈ O.map (·.1) then none else H b
theorem without_in {O : Own} {H : Hp} {b : Addr} (h : b ∈ O.map (·.1)) : without O H b = none := if_pos h
theorem without_out {O : Own} {H : Hp} {b : Addr} (h : b ∉ O.map (·.1)) : without O H b = H b := if_neg h
theorem without_some {O : Own} {H : Hp} {b : Addr} {o : HO} (h : without O H b = some o) : H b = some o ∧ b ∉ O.map (·.1) := by
  unfold without at h
  split at h
  · cases h
  · rename_i q; exact ⟨h, q⟩
section
variable {α β γ δ ρ : Type} {K : PySem.W.Frag} {fm : Fm} {σ : L2.St} {G G' H H' : Hp} {O O' La Lb : Own}
variable {te ta tb tc : TE} {R : Rp α} {S : Rp β} {T : Rp γ} {m : Res α} {n : Res β}
variable {D : Ends} {tr tt tu tw : TS} {Q : ρ → Prop}
theorem Hs.sub (hs : Hs fm G (La ++ (O ++ Lb)) H) : Hs ⟨without O H, G, fm.E, fm.cl⟩ G O H :=
  ⟨fun b o h => (without_some h).1, Same.refl _, hs.gh, fun _ _ _ => rfl, fun p hp => by
    have := hs.own p (List.mem_append_right _ (List.mem_append_left _ hp))
    exact ⟨this.1, this.2.1, without_in (List.mem_map.mpr ⟨p, hp, rfl⟩)⟩, by
    have := hs.nd
    rw [List.map_append, List.map_append] at this
    exact (List.nodup_append.mp (List.nodup_append.mp this).2.1).1⟩
theorem Hs.back (hs : Hs fm G (La ++ (O ++ Lb)) H) (h : Hs ⟨without O H, G, fm.E, fm.cl⟩ G' O' H') (e : O'.map (·.1) = O.map (·.1)) : Hs fm G' (La ++ (O' ++ Lb)) H' := by
  have nd := hs.nd
  rw [List.map_append, List.map_append] at nd
  obtain ⟨n1, n2, n3⟩ := List.nodup_append.mp nd
  obtain ⟨n4, n5, n6⟩ := List.nodup_append.mp n2
  have fo : ∀ b o, fm.F b = some o → b ∉ O.map (·.1) := fun b o hb hm => by
    obtain ⟨p, hp, rfl⟩ := List.mem_map.mp hm
    have := (hs.own p (List.mem_append_right _ (List.mem_append_left _ hp))).2.2
    rw [this] at hb
    cases hb
  have oth : ∀ p : Addr × HO, p ∈ La ++ (O ++ Lb) → p.1 ∉ O.map (·.1) → H' p.1 = some p.2 ∧ G' p.1 = none ∧ fm.F p.1 = none := fun p hp ho => by
    obtain ⟨a, b, c⟩ := hs.own p hp
    have w : without O H p.1 = some p.2 := (without_out ho).trans a
    exact ⟨h.fr _ _ w, (h.old _ _ w).trans b, c⟩
  refine ⟨fun b o hb => h.fr b o ((without_out (fo b o hb)).trans (hs.fr b o hb)), hs.g0.trans h.g0, h.gh, fun b o hb => (h.old b o ((without_out (fo b o hb)).trans (hs.fr b o hb))).trans (hs.old b o hb), fun p hp => ?_, ?_⟩
  · rcases List.mem_append.mp hp with hp | hp
    · refine oth p (List.mem_append_left _ hp) fun hm => ?_
      exact n3 p.1 (List.mem_map.mpr ⟨p, hp, rfl⟩) p.1 (List.mem_append_left _ hm) rfl
    · rcases List.mem_append.mp hp with hp | hp
      · obtain ⟨a, b, c⟩ := h.own p hp
        have hm : p.1 ∈ O.map (·.1) := by rw [← e]; exact List.mem_map.mpr ⟨p, hp, rfl⟩
        obtain ⟨q, hq, eq⟩ := List.mem_map.mp hm
        refine ⟨a, b, ?_⟩
        rw [← eq]
        exact (hs.own q (List.mem_append_right _ (List.mem_append_left _ hq))).2.2
      · refine oth p (List.mem_append_right _ (List.mem_append_right _ hp)) fun hm => ?_
        exact n6 p.1 hm p.1 (List.mem_map.mpr ⟨p, hp, rfl⟩) rfl
  · rw [List.map_append, List.map_append, e]
    exact nd
/-- what a def that writes an object promises: the object first -/
def spM {α β δ : Type} (K : PySem.W.Frag) (cl : Nat → Addr) (Ob : δ → V → Hp → Own → Prop) (S : Rps α) (R : Rp β) (f : δ → α → Res (β × δ)) : Sp := fun vs H Q E => ∃ F G O d v0 rest a, vs = v0 :: rest ∧ Hs ⟨F, G, E, cl⟩ G O H ∧ Ob d v0 G O ∧ S.r K G rest a ∧
  Wp (f d a) (fun x => ∀ v G' O' H', Hs ⟨F, G, E, cl⟩ G' O' H' → Ob x.2 v0 G' O' → O'.map (·.1) = O.map (·.1) → R.r K G' v x.1 → Q v H') (Fm.xw ⟨F, G, E, cl⟩)
/-- what evaluates while it writes the object -/
def EvM {α δ : Type} (K : PySem.W.Frag) (fm : Fm) (te : TE) (σ : L2.St) (G : Hp) (La O Lb : Own) (Ob : δ → V → Hp → Own → Prop) (v0 : V) (d : δ) (R : Rp α) (mm : Res (α × δ)) : Prop :=
  ∀ H, Hs fm G (La ++ (O ++ Lb)) H → Ob d v0 G O → ∀ Q : VK, mm.wp (fun x => ∀ v G' O' H', Same G G' → Hs fm G' (La ++ (O' ++ Lb)) H' → Ob x.2 v0 G' O' → O'.map (·.1) = O.map (·.1) → R.r K G' v x.1 → Q v H') fm.xw → te σ H Q
variable {Ob : δ → V → Hp → Own → Prop} {d : δ} {v0 : V}
theorem xw_sub {c : Nat} {fs : List (Str × V)} (hs : Hs fm G (La ++ (O ++ Lb)) H) (h : fm.xw c fs) : Fm.xw ⟨without O H, G, fm.E, fm.cl⟩ c fs := fun H' dd s x => h H' dd (fun b o hb => s b o (by
  show without O H b = some o
  rw [without_out]
  · exact hs.fr b o hb
  · intro hm
    obtain ⟨p, hp, rfl⟩ := List.mem_map.mp hm
    have := (hs.own p (List.mem_append_right _ (List.mem_append_left _ hp))).2.2
    rw [this] at hb
    cases hb)) x
/-- o.m(..), m writes o -/
theorem m_meth {Sα : Rps β} {f : δ → β → Res (α × δ)} {mt : Str} {p C dx : Addr} {fs : List (Str × V)} {t : TA} {a : Res β} (obm : ∀ d v G G' O, Same G G' → Ob d v G O → Ob d v G' O)
    (hx : EvV fm te σ G (La ++ (O ++ Lb)) (.ref p)) (ho : (p, .ins C dx fs) ∈ La ++ (O ++ Lb)) (hl : fs.lookup mt = none) (ha : EvA K fm t σ G (La ++ (O ++ Lb)) Sα a) :
    EvM K fm (tMeth C mt (spM K fm.cl Ob Sα R f) [] fm.E te t) σ G La O Lb Ob (.ref p) d R (a.bind fun x => f d x) := fun H hs ob Q q =>
  hx G H (Same.refl _) hs.kn _ ⟨p, dx, fs, rfl, hs.kn.own _ ho, hl, ha G H (Same.refl _) hs.kn _ (Res.wp_mono (Res.wp_bind q) (fun x q vs G1 H1 s r => by
    have hs1 := hs.stp s
    refine ⟨without O H1, G1, O, d, .ref p, vs, x, by rw [List.append_nil], hs1.sub, obm _ _ _ _ _ s.gg ob, r, .mk (Res.wp_mono q (fun y q v G2 O2 H2 h2 ob2 e2 r2 => ?_) fun c fs z => xw_sub hs1 z)⟩
    exact q v G2 O2 H2 (s.gg.trans h2.g0) (hs1.back h2 e2) ob2 e2 r2) fun _ _ z => z)⟩
/-- f(o, ..), f writes o -/
theorem m_call {Sα : Rps β} {f : δ → β → Res (α × δ)} {t : TA} {a : Res β} (obm : ∀ d v G G' O, Same G G' → Ob d v G O → Ob d v G' O)
    (hx : EvV fm te σ G (La ++ (O ++ Lb)) v0) (ha : EvA K fm t σ G (La ++ (O ++ Lb)) Sα a) :
    EvM K fm (tCall (spM K fm.cl Ob Sα R f) [] fm.E (tCons te t)) σ G La O Lb Ob v0 d R (a.bind fun x => f d x) := fun H hs ob Q q =>
  hx G H (Same.refl _) hs.kn _ (ha G H (Same.refl _) hs.kn _ (Res.wp_mono (Res.wp_bind q) (fun x q vs G1 H1 s r => by
    have hs1 := hs.stp s
    refine ⟨without O H1, G1, O, d, v0, vs, x, by rw [List.append_nil], hs1.sub, obm _ _ _ _ _ s.gg ob, r, .mk (Res.wp_mono q (fun y q v G2 O2 H2 h2 ob2 e2 r2 => ?_) fun c fs z => xw_sub hs1 z)⟩
    exact q v G2 O2 H2 (s.gg.trans h2.g0) (hs1.back h2 e2) ob2 e2 r2) fun _ _ z => z))
theorem w_asgM {i : Nat} {mm : Res (α × δ)} {mk : α × δ → Res ρ} (he : EvM K fm te σ G La O Lb Ob v0 d R mm) (hs : Hs fm G (La ++ (O ++ Lb)) H) (ob : Ob d v0 G O) (hm : Wp (mm.bind mk) Q fm.xw)
    (k : ∀ x v G' O' H', Same G G' → Hs fm G' (La ++ (O' ++ Lb)) H' → Ob x.2 v0 G' O' → O'.map (·.1) = O.map (·.1) → R.r K G' v x.1 → Wp (mk x) Q fm.xw → tr D (σ.set i (some v)) H') : tSeq (tAsg te (gName i)) tr D σ H :=
  he H hs ob _ (Res.wp_mono (Res.wp_bind hm.out) (fun x q v G2 O2 H2 a b c e r => k x v G2 O2 H2 a b c e r (.mk q)) fun _ _ z => z)
theorem w_retM {mm : Res (α × δ)} {mk : α × δ → Res ρ} (he : EvM K fm te σ G La O Lb Ob v0 d R mm) (hs : Hs fm G (La ++ (O ++ Lb)) H) (ob : Ob d v0 G O) (hm : Wp (mm.bind mk) Q fm.xw)
    (k : ∀ x v G' O' H', Same G G' → Hs fm G' (La ++ (O' ++ Lb)) H' → Ob x.2 v0 G' O' → O'.map (·.1) = O.map (·.1) → R.r K G' v x.1 → Wp (mk x) Q fm.xw → D.rt v H') : tSeq (tRet te) tr D σ H :=
  he H hs ob _ (Res.wp_mono (Res.wp_bind hm.out) (fun x q v G2 O2 H2 a b c e r => k x v G2 O2 H2 a b c e r (.mk q)) fun _ _ z => z)
theorem w_retM0 {mm : Res (α × δ)} {Q : α × δ → Prop} (he : EvM K fm te σ G La O Lb Ob v0 d R mm) (hs : Hs fm G (La ++ (O ++ Lb)) H) (ob : Ob d v0 G O) (hm : Wp mm Q fm.xw)
    (k : ∀ x v G' O' H', Same G G' → Hs fm G' (La ++ (O' ++ Lb)) H' → Ob x.2 v0 G' O' → O'.map (·.1) = O.map (·.1) → R.r K G' v x.1 → Q x → D.rt v H') : tSeq (tRet te) tr D σ H :=
  he H hs ob _ (Res.wp_mono hm.out (fun x q v G2 O2 H2 a b c e r => k x v G2 O2 H2 a b c e r q) fun _ _ z => z)
/-! max of a list, of two -/
def maxL : List Int → Int
  | [] => 0
  | x :: xs => xs.foldl max x
theorem foldl_max : ∀ (xs : List Int) (x : Int), (xs.foldl max x = x ∨ xs.foldl max x ∈ xs) ∧ x ≤ xs.foldl max x ∧ ∀ y ∈ xs, y ≤ xs.foldl max x
  | [], x => ⟨.inl rfl, Int.le_refl _, fun y h => by cases h⟩
  | z :: xs, x => by
    obtain ⟨h1, h2, h3⟩ := foldl_max xs (max x z)
    rw [List.foldl_cons]
    refine ⟨?_, by omega, fun y hy => ?_⟩
    · rcases h1 with h | h
      · rw [h]
        by_cases hxz : x ≤ z
        · right; rw [Int.max_eq_right hxz]; exact List.mem_cons_self ..
        · left; exact Int.max_eq_left (by omega)
      · exact .inr (List.mem_cons_of_mem _ h)
    · rcases List.mem_cons.mp hy with rfl | hy
      · omega
      · exact h3 y hy
theorem maxL_mem {xs : List Int} (h : xs ≠ []) : maxL xs ∈ xs ∧ ∀ y ∈ xs, y ≤ maxL xs := by
  cases xs with
  | nil => exact absurd rfl h
  | cons x xs =>
    obtain ⟨h1, h2, h3⟩ := foldl_max xs x
    refine ⟨?_, fun y hy => ?_⟩
    · rcases h1 with h | h
      · show xs.foldl max x ∈ _; rw [h]; exact List.mem_cons_self ..
      · exact List.mem_cons_of_mem _ h
    · rcases List.mem_cons.mp hy with rfl | hy
      · exact h2
      · exact h3 y hy
def maxM (a : Res (List Int)) : Res Int := a.bind fun xs => if xs = [] then .stuck else .ok (maxL xs)
theorem e_maxL {m : Res (List Int)} (h : EvE K fm te σ G O (rL zI) m) : EvE K fm (tCB (rMax K) (tCons te tNil)) σ G O zI (maxM m) :=
  e_cb (a_one h) fun G1 H1 x vs k ⟨v, ev, p, ws, e, h, r⟩ Q q => by
    subst ev; subst e
    cases rls_enc (R := zI) (enc := V.int) (fun h => h) r
    by_cases hx : x = []
    · rw [if_pos hx] at q; exact q.elim
    · rw [if_neg hx] at q
      refine ⟨p, x, rfl, same_l k.gh h, List.length_pos_iff.mpr hx, fun m hm hu => ?_⟩
      obtain ⟨h1, h2⟩ := maxL_mem hx
      have : m = maxL x := Int.le_antisymm (h2 m hm) (hu _ h1)
      rw [this]
      exact q _ G1 H1 (Stp.refl k.gh) rfl
theorem w_retS {kr : α → ρ} (he : EvE K fm te σ G O R m) (hs : Hs fm G O H) (hm : Wp (m.bind fun r => .ok (kr r)) Q fm.xw)
    (k : ∀ r v G' H', Same G G' → Hs fm G' O H' → R.r K G' v r → Q (kr r) → D.rt v H') : tSeq (tRet te) tr D σ H :=
  he G H (Same.refl _) hs.kn _ (Res.wp_mono (Res.wp_bind hm.out) (fun x q v G2 H2 s r => k x v G2 H2 s.gg (hs.stp s) r q) fun _ _ z => z)
/-- xs.append(what writes the object), xs the own list at the place j -/
theorem w_appM {i : Nat} {l : Addr} {vs : List V} {xs : List α} {mm : Res (α × δ)} {mk : α × δ → Res ρ} (hx : σ[i]? = some (some (.ref l))) (hj : (l, HO.lst vs) ∈ La) (hlen : xs.length < lim) (hv : vs.length = xs.length)
    (he : EvM K fm te σ G La O Lb Ob v0 d R mm) (hs : Hs fm G (La ++ (O ++ Lb)) H) (ob : Ob d v0 G O) (hm : Wp (mm.bind mk) Q fm.xw)
    (k : ∀ x v G' O' H', Same G G' → Hs fm G' (La ++ (O' ++ Lb)) H' → Ob x.2 v0 G' O' → O'.map (·.1) = O.map (·.1) → R.r K G' v x.1 → Wp (mk x) Q fm.xw → tr D σ (upd H' l (.lst (vs ++ [v])))) : tSeq (tDrop (tBM K "list" rAppend (tVar i) (tCons te tNil))) tr D σ H :=
  ⟨_, hx, .inl ⟨rfl, vs, SqL.of (hs.kn.own _ (List.mem_append_left _ hj))⟩, he H hs ob _ (Res.wp_mono (Res.wp_bind hm.out) (fun x q v G2 O2 H2 a b c e r =>
    ⟨l, vs, v, rfl, rfl, b.kn.own _ (List.mem_append_left _ hj), by rw [hv, ← lim_eq]; exact hlen, k x v G2 O2 H2 a b c e r (.mk q)⟩) fun _ _ z => z)⟩
end
end Mw

namespace Mw
open PySem PySem.Spec PyProof.Rows L2
/-! ### arguments that write the object -/
section
variable {α β γ δ ρ : Type} {K : PySem.W.Frag} {fm : Fm} {σ : L2.St} {G G' H H' : Hp} {O O' La Lb : Own}
variable {te ta tb tc t1 t2 : TE} {R : Rp α} {S : Rp β} {T : Rp γ} {m : Res α}
variable {Ob : δ → V → Hp → Own → Prop} {d : δ} {v0 : V}
theorem m_pure (obm : ∀ d v G G' O, Same G G' → Ob d v G O → Ob d v G' O) (he : EvE K fm te σ G (La ++ (O ++ Lb)) R m) : EvM K fm te σ G La O Lb Ob v0 d R (m.bind fun x => .ok (x, d)) := fun H hs ob Q q =>
  he G H (Same.refl _) hs.kn Q (Res.wp_mono (Res.wp_bind q) (fun x q v G2 H2 s r => q v G2 O H2 s.gg (hs.stp s) (obm _ _ _ _ _ s.gg ob) rfl r) fun _ _ z => z)
theorem m_ifExp {c : TT} {mc : Res Bool} {ma mb : Res (α × δ)} (obm : ∀ d v G G' O, Same G G' → Ob d v G O → Ob d v G' O) (hc : EvT fm c σ G (La ++ (O ++ Lb)) mc)
    (ha : ∀ G', Same G G' → EvM K fm ta σ G' La O Lb Ob v0 d R ma) (hb : ∀ G', Same G G' → EvM K fm tb σ G' La O Lb Ob v0 d R mb) : EvM K fm (tIf c ta tb) σ G La O Lb Ob v0 d R (Res.ite mc ma mb) := fun H hs ob Q q =>
  hc G H (Same.refl _) hs.kn _ (Res.wp_mono (Res.wp_bind q) (fun x q G2 H2 s => by
    have ob2 := obm _ _ _ _ _ s.gg ob
    cases x with
    | true => exact ha G2 s.gg H2 (hs.stp s) ob2 Q (Res.wp_mono q (fun y q v G3 O3 H3 e => q v G3 O3 H3 (s.gg.trans e)) fun _ _ z => z)
    | false => exact hb G2 s.gg H2 (hs.stp s) ob2 Q (Res.wp_mono q (fun y q v G3 O3 H3 e => q v G3 O3 H3 (s.gg.trans e)) fun _ _ z => z)) fun _ _ z => z)
/-- o.m(a, b), b writes o, and so does m -/
theorem m_meth2 {f : δ → Int × Int → Res (α × δ)} {mt : Str} {p C dx : Addr} {fs : List (Str × V)} {m1 : Res Int} {mm2 : Res (Int × δ)} (obm : ∀ d v G G' O, Same G G' → Ob d v G O → Ob d v G' O)
    (hx : EvV fm te σ G (La ++ (O ++ Lb)) (.ref p)) (ho : (p, .ins C dx fs) ∈ La ++ (O ++ Lb)) (hl : fs.lookup mt = none) (h1 : EvE K fm t1 σ G (La ++ (O ++ Lb)) zI m1) (h2 : ∀ G', Same G G' → EvM K fm t2 σ G' La O Lb Ob (.ref p) d zI mm2) :
    EvM K fm (tMeth C mt (spM K fm.cl Ob (rsC zI (rs1 zI)) R f) [] fm.E te (tCons t1 (tCons t2 tNil))) σ G La O Lb Ob (.ref p) d R (m1.bind fun x => mm2.bind fun y => f y.2 (x, y.1)) := fun H hs ob Q q =>
  hx G H (Same.refl _) hs.kn _ ⟨p, dx, fs, rfl, hs.kn.own _ ho, hl, h1 G H (Same.refl _) hs.kn _ (Res.wp_mono (Res.wp_bind q) (fun x q v G1 H1 s r => by
    cases (show v = V.int x from r)
    refine h2 G1 s.gg H1 (hs.stp s) (obm _ _ _ _ _ s.gg ob) _ (Res.wp_mono (Res.wp_bind q) (fun y q w G2 O2 H2 e2 hs2 ob2 ea2 r2 => ?_) fun _ _ z => z)
    cases (show w = V.int y.1 from r2)
    refine ⟨without O2 H2, G2, O2, y.2, .ref p, _, (x, y.1), by rw [List.append_nil], hs2.sub, ob2, ⟨_, _, rfl, rfl, _, rfl, rfl⟩, .mk (Res.wp_mono q (fun z q v G3 O3 H3 h3 ob3 e3 r3 => ?_) fun c fs z => xw_sub hs2 z)⟩
    exact q v G3 O3 H3 ((s.gg.trans e2).trans h3.g0) (hs2.back h3 e3) ob3 (e3.trans ea2) r3) fun _ _ z => z)⟩
end
end Mw

namespace Mw
open PySem PySem.Spec PyProof.Rows L2
/-! ### enumerate(a tuple) -/
def IteT (K : PySem.W.Frag) (a : Addr) : It where
  go := fun i H => ∃ (xs : List V) (x : V), SqT K H a xs ∧ xs[i]? = some x
  yld := fun i H v H' => ∃ T x, v = .ref T ∧ H T = none ∧ H' = upd H T (.tup [.int (i : Nat), x]) ∧ ∀ xs, SqT K H a xs → xs[i]? = some x
  stop := fun i H => ∃ xs : List V, SqT K H a xs ∧ xs.length ≤ i
theorem ne_iter {h : Heap} {a it : Addr} {items : Array Value} {i : Nat} (ht : h.IsTuple a items) (hi : h.IsTupleIter it a i) : a ≠ it := by
  rintro rfl
  obtain ⟨o, ho, hc, _⟩ := ht
  obtain ⟨o', ho', hc', _⟩ := hi
  rw [ho] at ho'
  cases ho'
  rw [hc] at hc'
  exact absurd hc' (by decide)
theorem draws_out {prog : Program} {w : World} {A : Around} (hh : A.handled = none) (it t : Addr) (i : Nat) {items : Array Value} (hn : items[i]? = none) :
    Draws prog w A it [it, t] i (fun _ _ => True) (fun k h => k = i ∧ h.IsTupleIter it t i ∧ h.IsTuple t items) where
  live := fun _ _ st => let ⟨o, ho, _⟩ := st.2.1; ⟨o, ho⟩
  frame := fun _ _ _ st hk => ⟨st.1, st.2.1.at fun o e => hk it (by simp) o e, st.2.2.at fun o e => hk t (by simp) o e⟩
  item := fun k s Q E hi st hQ => absurd st.1 (by omega)
  done := fun s Q E st hE => wpAny_nextOf_tuple_end hh st.2.1 st.2.2 hn hE
theorem turn_enumT {P : Program} {w : World} {K : PySem.W.Frag} {elts : List Expr} {kk : Nat} {tpos : Pos} (a e it : Addr) : Turn P w K (.Tuple elts kk tpos) (IteT K a) [e, it] e (fun i h => (∃ old, IsEnum h e it ((i : Nat) : Int) old) ∧ h.IsTupleIter it a i ∧ e ≠ it) where
  mem := List.mem_cons_self ..
  obj := fun i h ⟨⟨old, he⟩, ⟨o, ho, hc, hd⟩, _⟩ b hb => by
    rcases List.mem_cons.mp hb with rfl | hb
    · exact ⟨_, he, fun v q => nomatch q⟩
    · rw [List.mem_singleton.mp hb]; exact ⟨o, ho, fun v q => by rw [hd] at q; cases q⟩
  keep := fun i h h' ⟨⟨old, he⟩, hi, hne⟩ k => ⟨⟨old, k e (List.mem_cons_self ..) _ he⟩, hi.at fun o q => k it (List.mem_cons_of_mem _ (List.mem_cons_self ..)) o q, hne⟩
  item := by
    rintro X rfl rfl rfl hc i pins s σ H E I hf ⟨⟨old, he⟩, hit, hne⟩ ⟨xs, x, hq, hx⟩
    obtain ⟨its, rv, p, _⟩ := I.tuple hq
    obtain ⟨u, hu, ru⟩ := rv.get hx
    have hlt : i < its.toArray.size := by simpa using (List.getElem?_eq_some_iff.mp hu).1
    have hea : e ≠ a := by
      rintro rfl
      obtain ⟨o, ho, hcl, _⟩ := p
      rw [show s.heap.get? e = some _ from he] at ho
      cases ho
      simp at hcl
    refine wpAny_pyNext_enum_itemD (Draws.tuple (prog := X.prog) (w := X.w) (A := X.A.in1) (show X.A.in1.handled = none from I.ok.hd hc) it a (ne_iter p hit) its.toArray) he ⟨hit, p⟩ hlt hne (by simp [hne, hea]) fun x' h1 tk hP ho st1 hT hsz hk => ?_
    have ex : x' = u := by
      have : its.toArray[i]? = some u := by simpa using hu
      rw [this] at hP
      exact (Option.some.inj hP).symm
    subst ex
    have hel := Heap.lt_size (show s.heap.get? e = some _ from he)
    have hil : it < s.heap.objs.size := Heap.lt_size hit.choose_spec.1
    refine ⟨_, rfl, wpAny_letOwnedTupleGo_enum (s := { s with heap := h1, toks := tk + 1 }) ho fun h2 he2 sb => ?_⟩
    have hT2 := (sb.2 _ (Nat.ne_of_gt hel)).trans hT
    have nw : ObjOk X.prog X.w (upd H s.heap.objs.size (.tup [.int (i : Nat), x])) h2 s.heap.objs.size (.tup [.int (i : Nat), x]) := ⟨by rw [sizeLine_eq]; simp, _, .cons ⟨_, rfl⟩ (.cons ru .nil), ⟨_, hT2, rfl, _, rfl⟩⟩
    have I1 := I.turnedNew (ch := [e, it]) (h' := h2) (t' := tk + 1) (fun b ob hb q => (sb.2 b (fun z => hb (by simp [z]))).trans (hk b ob (fun z => hb (by simp [z])) (fun z => hb (by simp [z])) q)) hf (Nat.le_refl _) nw
    have e1 : ((i + 1 : Nat) : Int) = (i : Int) + 1 := by omega
    exact ⟨.ref s.heap.objs.size, _, I1, rfl, ⟨_, x, rfl, I.hok.fresh (Nat.le_refl _), rfl, fun ys hy => by rw [I.tuple_inj hy hq]; exact hx⟩, ⟨⟨x', by rw [e1]; exact he2⟩, st1.1.at fun o q => (sb.2 it (Ne.symm hne)).trans q, hne⟩, fun b hb => by
      have hb' : b < s.heap.objs.size := by
        rcases List.mem_cons.mp hb with rfl | hb
        · exact hel
        · rw [List.mem_singleton.mp hb]; exact hil
      rw [upd_ne (Nat.ne_of_lt hb')]
      exact (hf b hb).1⟩
  done := by
    rintro X rfl rfl rfl hc i pins s σ H E I hf ⟨⟨old, he⟩, hit, hne⟩ ⟨xs, hq, hx⟩
    obtain ⟨its, rv, p, _⟩ := I.tuple hq
    obtain ⟨f0, f1, f2, f3, f4, f5⟩ := hf it (by simp)
    have hl := rv.length
    have hn : its.toArray[i]? = none := by simp; omega
    exact wpAny_pyNext_enum_endD (draws_out (prog := X.prog) (w := X.w) (A := X.A.in1) (show X.A.in1.handled = none from I.ok.hd hc) it a i hn) he ⟨rfl, hit, p⟩ fun h' eb => ⟨rfl, I.turned (t' := s.toks) (fun b o hb q => eb b o hb q) f0 f1 f3 f4 f5⟩
  self := fun A i s Q E ⟨⟨_, he⟩, _⟩ h => wpAny_pyIter_enum he h
/-- enumerate(v): an iterator of v, and the count over it -/
theorem meets_enum1 {v : Value} {o : Obj} {Hv : Heap → Prop} (B : Begins v o Hv) : Meets (Builtin.«enumerate.__new__» ⟨[.type "enumerate", v], []⟩) (fun _ R s => Hv s.heap ∧
    R (.ok (.ret (.ref (s.heap.push o).objs.size))) { s with heap := (s.heap.push o).push { cls := .type "enumerate", data := .fields #[.none, .bool false, .ref s.heap.objs.size, rawInt 0, .none, .none] } }) :=
  .of_wp fun pr wo Ar Rr sh hh => by
    obtain ⟨h0, g0, d0, t0, o0⟩ := sh
    obtain ⟨hv, hr⟩ := hh
    have sE := sub_enumerate
    have go : ∀ {A2 : Around} {E2 : Value → Shared → Prop} {Q2 : Value → Shared → Prop}, Q2 (.ref h0.objs.size) ⟨h0.push o, g0, d0, t0, o0⟩ → wpAny (model pr wo) A2 (pyIter v) Q2 E2 ⟨h0, g0, d0, t0, o0⟩ := fun q2 => B.iter pr wo _ _ ⟨h0, g0, d0, t0, o0⟩ _ hv q2
    wp_walk using go
    refine wpAny_stack_any fun stk => wpAny_pure ?_
    split
    · rename_i cc _ _ _ _ _
      cases (cc == Value.type "enumerate") <;> (wp_walk using go; exact ⟨_, rfl, hr⟩)
    · wp_walk using go
      exact ⟨_, rfl, hr⟩
section
variable {prog : Program} {w : World} {A : Around} {E : Value → Shared → Prop} {s : Shared}
theorem call_enumT {l : Addr} {items : Array Value} {Q : Value → Shared → Prop} (hL : s.heap.IsTuple l items)
    (h : ∀ h', IsEnum h' (s.heap.objs.size + 1) s.heap.objs.size 0 .none → h'.IsTupleIter s.heap.objs.size l 0 → (∀ b o, s.heap.get? b = some o → h'.get? b = some o) → Q (.ref (s.heap.objs.size + 1)) { s with heap := h' }) :
    wpAny (model prog w) A (call (.type "enumerate") [.ref l]) Q E s := by
  have B := begins_tuple l items
  refine callType_new F.called_enumerate (by decide) (F.typeCall_enumerate_1 _) (F.newCall_enumerate_1 _) (fun obj => F.args_object_init_2 obj _) F.entry_enumerate_new (meets_enum1 B) ⟨hL, ?_⟩
  generalize ho : ({ cls := .type "tuple_iterator", data := .fields #[.ref l, .int 0 0] } : Obj) = o at *
  have hz : (s.heap.push o).objs.size = s.heap.objs.size + 1 := Heap.size_push ..
  have fr : o.isFreed = false := B.free
  show _ ∧ _
  rw [hz]
  have hen : IsEnum ((s.heap.push o).push { cls := .type "enumerate", data := .fields #[.none, .bool false, .ref s.heap.objs.size, rawInt 0, .none, .none] }) (s.heap.objs.size + 1) s.heap.objs.size 0 .none := by
    have q := Heap.get?_push_size (s.heap.push o) (o := { cls := .type "enumerate", data := .fields #[.none, .bool false, .ref s.heap.objs.size, rawInt 0, .none, .none] }) rfl
    rwa [hz] at q
  exact ⟨⟨_, hen, rfl⟩, h _ hen (by subst ho; exact ⟨_, Heap.get?_push_of_some _ (Heap.get?_push_size _ rfl), rfl, rfl⟩) fun b u x => Heap.get?_push_of_some _ (Heap.get?_push_of_some _ x)⟩
end
def iEnumT (K : PySem.W.Frag) (ta : TA) : TI := fun σ H R => ta σ H fun vs H1 => ∃ a xs, vs = [.ref a] ∧ SqT K H1 a xs ∧ R (IteT K a) H1
theorem pi_enumT {X : Cx} {e : Expr} {ta : TA} {p pos tpos : Pos} {elts : List Expr} {kk : Nat} (hg : Gl X "enumerate") (hm : X.mg "enumerate" = none) (ha : PA X [e] ta) (hs : starEach [e] X.env = [(false, eval e X.env)] := by rfl) :
    PI X (.Tuple elts kk tpos) (.Call (.Name "enumerate" p) [e] [] pos) (iEnumT X.K ta) := ⟨fun pins s σ H R I h => Call_ (ld_blt I hg hm boot_enumerate (PyProof.Rows.callWith_type1 (thn (ha.run pos pins s σ H _ I h) fun us s1 ⟨vs, H1, I1, r1, a, xs, ex, hq, q⟩ => by
  subst ex
  obtain ⟨its, rv, p', _⟩ := I1.tuple hq
  cases r1 with
  | cons r rr =>
    cases rr
    cases r
    refine call_enumT p' fun h' he hit hk => wpAny_pyIter_enum he ?_
    refine ⟨s1.heap.objs.size + 1, [s1.heap.objs.size + 1, s1.heap.objs.size], _, _, H1, rfl, I1.kept (t' := s1.toks) hk, turn_enumT a (s1.heap.objs.size + 1) s1.heap.objs.size, ⟨⟨.none, he⟩, hit, Nat.succ_ne_self _⟩, fun b hb => ?_, q⟩
    have hle : s1.heap.objs.size ≤ b := by
      rcases List.mem_cons.mp hb with rfl | hb
      · exact Nat.le_succ _
      · rw [List.mem_singleton.mp hb]; exact Nat.le_refl _
    exact I1.fpOk hle (I1.hok.fresh hle)) hs rfl))⟩
section
variable {α : Type} {K : PySem.W.Frag} {fm : Fm} {σ : L2.St} {G : Hp} {O : Own} {te : TE} {R : Rp α}
theorem iteT_ok {p : Addr} {vs : List V} {xs : List α} (h : SqT K G p vs) (r : RLs R K G vs xs) : ItOk K G [] (rP2 zI R) (IteT K p) (enumL xs) where
  go := fun i G1 H a b _ hi => by
    rw [enumL_length] at hi
    obtain ⟨x, hx⟩ := paired_lt r hi
    exact ⟨vs, x, same_t (a.trans b) h, hx⟩
  stop := fun G1 H a b _ => ⟨vs, same_t (a.trans b) h, by rw [enumL_length]; exact Nat.le_of_eq (Paired.length r)⟩
  yld := fun i G1 H v H' a b _ hi y => by
    obtain ⟨p', x, ev, hp, eH, y⟩ := y
    subst ev eH
    obtain ⟨z, hz, rz⟩ := paired_get r (y vs (same_t (a.trans b) h))
    refine ⟨((i : Int), z), _, by simp [enumL, List.getElem?_mapIdx, hz], Stp.new b hp, p', _, rfl, .inl (.inl upd_same), _, _, rfl, rfl, _, rfl, R.mono (a.trans (same_new (same_back b hp))) rz⟩
theorem i_enumT {m : Res (List α)} (h : EvE K fm te σ G O (rT R) m) : EvI K fm (iEnumT K (tCons te tNil)) σ G O [] (rP2 zI R) (enumM m) := fun G1 H1 e k Q q =>
  h G1 H1 e k _ (Res.wp_mono (Res.wp_bind q) (fun xs f v G2 H2 s ⟨p, vs, ev, hq, r⟩ => by
    subst ev
    exact ⟨p, vs, rfl, same_t s.gh hq, f _ G2 H2 s (iteT_ok hq r)⟩) fun _ _ z => z)
end
end Mw

namespace Mw
open PySem PySem.Spec PyProof.Rows L2
/-! ### expressions that write one object, its state handed on -/
section
variable {fm : Fm} {G G' H H' : Hp} {O O' La Lb : Own}
theorem Hs.back2 (hs : Hs fm G (La ++ (O ++ Lb)) H) (h : Hs ⟨without O H, G, fm.E, fm.cl⟩ G' O' H') : Hs fm G' (La ++ (O' ++ Lb)) H' := by
  have nd := hs.nd
  rw [List.map_append, List.map_append] at nd
  obtain ⟨n1, n2, n3⟩ := List.nodup_append.mp nd
  obtain ⟨n4, n5, n6⟩ := List.nodup_append.mp n2
  have fo : ∀ b o, fm.F b = some o → b ∉ O.map (·.1) := fun b o hb hm => by
    obtain ⟨p, hp, rfl⟩ := List.mem_map.mp hm
    have := (hs.own p (List.mem_append_right _ (List.mem_append_left _ hp))).2.2
    rw [this] at hb
    cases hb
  have oth : ∀ p : Addr × HO, p ∈ La ++ (O ++ Lb) → p.1 ∉ O.map (·.1) → without O H p.1 = some p.2 ∧ H' p.1 = some p.2 ∧ G' p.1 = none ∧ fm.F p.1 = none := fun p hp ho => by
    obtain ⟨a, b, c⟩ := hs.own p hp
    have w : without O H p.1 = some p.2 := (without_out ho).trans a
    exact ⟨w, h.fr _ _ w, (h.old _ _ w).trans b, c⟩
  have inA : ∀ p, p ∈ La → p.1 ∉ O.map (·.1) := fun p hp hm => n3 p.1 (List.mem_map.mpr ⟨p, hp, rfl⟩) p.1 (List.mem_append_left _ hm) rfl
  have inB : ∀ p, p ∈ Lb → p.1 ∉ O.map (·.1) := fun p hp hm => n6 p.1 hm p.1 (List.mem_map.mpr ⟨p, hp, rfl⟩) rfl
  have dis : ∀ p : Addr × HO, p ∈ La ++ (O ++ Lb) → p.1 ∉ O.map (·.1) → ∀ q ∈ O', q.1 ≠ p.1 := fun p hp ho q hq e => by
    have w := (oth p hp ho).1
    have f := (h.own q hq).2.2
    rw [show ({ F := without O H, G0 := G, E := fm.E, cl := fm.cl } : Fm).F q.1 = without O H q.1 from rfl, e, w] at f
    cases f
  refine ⟨fun b o hb => h.fr b o ((without_out (fo b o hb)).trans (hs.fr b o hb)), hs.g0.trans h.g0, h.gh, fun b o hb => (h.old b o ((without_out (fo b o hb)).trans (hs.fr b o hb))).trans (hs.old b o hb), fun p hp => ?_, ?_⟩
  · rcases List.mem_append.mp hp with hp | hp
    · exact (oth p (List.mem_append_left _ hp) (inA p hp)).2
    · rcases List.mem_append.mp hp with hp | hp
      · obtain ⟨a, b, c⟩ := h.own p hp
        refine ⟨a, b, ?_⟩
        cases hf : fm.F p.1 with
        | none => rfl
        | some o =>
          have c' : without O H p.1 = none := c
          rw [without_out (fo _ _ hf), hs.fr _ _ hf] at c'
          cases c'
      · exact (oth p (List.mem_append_right _ (List.mem_append_right _ hp)) (inB p hp)).2
  · rw [List.map_append, List.map_append]
    refine List.nodup_append.mpr ⟨n1, List.nodup_append.mpr ⟨h.nd, n5, ?_⟩, ?_⟩
    · intro a ha b hb e
      obtain ⟨q, hq, rfl⟩ := List.mem_map.mp ha
      obtain ⟨p, hp, rfl⟩ := List.mem_map.mp hb
      exact dis p (List.mem_append_right _ (List.mem_append_right _ hp)) (inB p hp) q hq e
    · intro a ha b hb e
      obtain ⟨p, hp, rfl⟩ := List.mem_map.mp ha
      rcases List.mem_append.mp hb with hb | hb
      · obtain ⟨q, hq, rfl⟩ := List.mem_map.mp hb
        exact dis p (List.mem_append_left _ hp) (inA p hp) q hq e.symm
      · exact n3 p.1 ha b (List.mem_append_right _ hb) e
theorem Hs.perm {fm : Fm} {G H : Hp} {O O' : Own} (h : Hs fm G O H) (e : O'.Perm O) : Hs fm G O' H :=
  ⟨h.fr, h.g0, h.gh, h.old, fun p hp => h.own p (e.mem_iff.mp hp), (e.map _).nodup_iff.mpr h.nd⟩
/-- fewer cells of one's own -/
theorem Hs.less {fm : Fm} {G H : Hp} {O O' : Own} (h : Hs fm G O H) (e : O'.Sublist O) : Hs fm G O' H :=
  ⟨h.fr, h.g0, h.gh, h.old, fun p hp => h.own p (e.subset hp), (e.map _).nodup h.nd⟩
theorem Hs.only (h : Hs fm G (La ++ (O ++ Lb)) H) : Hs fm G O H := h.less ((List.sublist_append_left O Lb).trans (List.sublist_append_right La _))
theorem Hs.cut (h : Hs fm G (La ++ (O ++ Lb)) H) : Hs fm G La H := h.less (List.sublist_append_left La _)
theorem Hs.wrap (h : Hs fm G O H) : Hs fm G ([] ++ (O ++ [])) H := by rw [List.nil_append, List.append_nil]; exact h
end
def Obm {δ : Type} (Ob : δ → V → Hp → Own → Prop) : Prop := ∀ (d : δ) v G G' O, Same G G' → Ob d v G O → Ob d v G' O
/-- the place of the object among the arguments -/
def rsV {α : Type} (v0 : V) (S : Rps α) : Rps α := ⟨fun K G vs a => ∃ r, vs = v0 :: r ∧ S.r K G r a, fun e ⟨r, h, q⟩ => ⟨r, h, S.mono e q⟩⟩
def rs0 : Rps Unit := ⟨fun _ _ vs _ => vs = [], fun _ h => h⟩
/-- what a def that writes an object promises -/
def spN {α β δ : Type} (K : PySem.W.Frag) (cl : Nat → Addr) (Ob : δ → V → Hp → Own → Prop) (S : V → Rps α) (R : Rp β) (f : δ → α → Res (β × δ)) : Sp := fun vs H Q E => ∃ F G O d v0 a, Hs ⟨F, G, E, cl⟩ G O H ∧ Ob d v0 G O ∧ (S v0).r K G vs a ∧
  Wp (f d a) (fun x => ∀ v G' O' H', Hs ⟨F, G, E, cl⟩ G' O' H' → Ob x.2 v0 G' O' → R.r K G' v x.1 → Q v H') (Fm.xw ⟨F, G, E, cl⟩)
theorem spN_of {α β δ : Type} {K : PySem.W.Frag} {cl : Nat → Addr} {Ob : δ → V → Hp → Own → Prop} {S : Rps α} {R : Rp β} {f : δ → α → Res (β × δ)} (vs : List V) (H : Hp) (Q : VK) (E : XK)
    (h : spN K cl Ob (fun v0 => rsV v0 S) R f vs H Q E) : spM K cl Ob S R f vs H Q E := by
  obtain ⟨F, G, O, d, v0, a, hs, ob, ⟨r, rfl, hS⟩, hm⟩ := h
  exact ⟨F, G, O, d, v0, r, a, rfl, hs, ob, hS, .mk (Res.wp_mono hm.out (fun x q v G' O' H' h1 h2 _ h3 => q v G' O' H' h1 h2 h3) fun _ _ z => z)⟩
/-! state combinators -/
def pureS {α δ : Type} (m : δ → Res α) : δ → Res (α × δ) := fun d => (m d).bind fun x => .ok (x, d)
def pairS {α β δ : Type} (f : δ → Res (α × δ)) (g : δ → Res (β × δ)) : δ → Res ((α × β) × δ) := fun d => (f d).bind fun x => (g x.2).bind fun y => .ok ((x.1, y.1), y.2)
def callS {α β δ : Type} (f : δ → Res (α × δ)) (h : δ → α → Res (β × δ)) : δ → Res (β × δ) := fun d => (f d).bind fun x => h x.2 x.1
def mapS {α β δ : Type} (f : δ → Res (α × δ)) (h : α → Res β) : δ → Res (β × δ) := fun d => (f d).bind fun x => (h x.1).bind fun y => .ok (y, x.2)
def map2S {α β γ δ : Type} (f : δ → Res (α × δ)) (g : δ → Res (β × δ)) (h : α → β → Res γ) : δ → Res (γ × δ) := fun d => (f d).bind fun x => (g x.2).bind fun y => (h x.1 y.1).bind fun z => .ok (z, y.2)
def readS {α β δ : Type} (f : δ → Res (α × δ)) (h : δ → α → Res β) : δ → Res (β × δ) := fun d => (f d).bind fun x => (h x.2 x.1).bind fun y => .ok (y, x.2)
def iteS {α δ : Type} (c : δ → Res (Bool × δ)) (a b : δ → Res (α × δ)) : δ → Res (α × δ) := fun d => (c d).bind fun x => if x.1 = true then a x.2 else b x.2
def andS {δ : Type} (c a : δ → Res (Bool × δ)) : δ → Res (Bool × δ) := fun d => (c d).bind fun x => if x.1 = true then a x.2 else .ok (false, x.2)
def orS {δ : Type} (c a : δ → Res (Bool × δ)) : δ → Res (Bool × δ) := fun d => (c d).bind fun x => if x.1 = true then .ok (true, x.2) else a x.2
section
variable {α β γ δ ε ρ : Type} (K : PySem.W.Frag) (fm : Fm) (σ : L2.St) (G : Hp) (La Lb : Own) (Ob : δ → V → Hp → Own → Prop) (v0 : V)
def EvS (te : TE) (R : Rp α) (f : δ → Res (α × δ)) : Prop := ∀ d O G1 H1, Same G G1 → Hs fm G1 (La ++ (O ++ Lb)) H1 → Ob d v0 G1 O → ∀ Q : VK,
  (f d).wp (fun x => ∀ v G2 O2 H2, Same G1 G2 → Hs fm G2 (La ++ (O2 ++ Lb)) H2 → Ob x.2 v0 G2 O2 → R.r K G2 v x.1 → Q v H2) fm.xw → te σ H1 Q
def EvSA (ta : TA) (S : Rps α) (f : δ → Res (α × δ)) : Prop := ∀ d O G1 H1, Same G G1 → Hs fm G1 (La ++ (O ++ Lb)) H1 → Ob d v0 G1 O → ∀ Q : List V → Hp → Prop,
  (f d).wp (fun x => ∀ vs G2 O2 H2, Same G1 G2 → Hs fm G2 (La ++ (O2 ++ Lb)) H2 → Ob x.2 v0 G2 O2 → S.r K G2 vs x.1 → Q vs H2) fm.xw → ta σ H1 Q
def EvST (tt : TT) (f : δ → Res (Bool × δ)) : Prop := ∀ d O G1 H1, Same G G1 → Hs fm G1 (La ++ (O ++ Lb)) H1 → Ob d v0 G1 O → ∀ Q : Bool → Hp → Prop,
  (f d).wp (fun x => ∀ G2 O2 H2, Same G1 G2 → Hs fm G2 (La ++ (O2 ++ Lb)) H2 → Ob x.2 v0 G2 O2 → Q x.1 H2) fm.xw → tt σ H1 Q
end
/-- an object of the class at C, a method's name that no field has -/
def ObjM {δ : Type} (C : Addr) (Ob : δ → V → Hp → Own → Prop) (mt : Str) : Prop := ∀ d v G O, Ob d v G O → ∃ p dx fs, v = .ref p ∧ (p, .ins C dx fs) ∈ O ∧ fs.lookup mt = none
/-- the object as a value that is read -/
def Lends {δ ε : Type} (K : PySem.W.Frag) (Ob : δ → V → Hp → Own → Prop) (Ro : Rp ε) (ro : δ → ε) : Prop := ∀ fm d v G O O' H, Kn fm G O' H → (∀ p ∈ O, p ∈ O') → Ob d v G O → ∃ Gl, Same G Gl ∧ Same Gl H ∧ Ro.r K Gl v (ro d)
/-- the object's place becomes the read value's -/
structure Conv {α ε α' : Type} (K : PySem.W.Frag) (v0 : V) (S : Rps α) (Ro : Rp ε) (S' : Rps α') (ins : ε → α → α') : Prop where
  go : ∀ G vs a e, S.r K G vs a → Ro.r K G v0 e → S'.r K G vs (ins e a)
section
variable {α β γ δ ε ρ α' : Type} {K : PySem.W.Frag} {fm : Fm} {σ : L2.St} {G G' H H' : Hp} {O O' La Lb : Own} {Ob : δ → V → Hp → Own → Prop} {v0 : V} {d : δ}
variable {te ta tb tc : TE} {R : Rp α} {S : Rp β} {T : Rp γ} {m : Res α} {n : Res β} {f : δ → Res (α × δ)} {g : δ → Res (β × δ)}
variable {D : Ends} {tr tt tu tw : TS} {Q : ρ → Prop}
theorem cv_here {S : Rps α} {Ro : Rp ε} : Conv K v0 (rsV v0 S) Ro (rsC Ro S) (fun e a => (e, a)) := ⟨fun G vs a e ⟨r, h1, h2⟩ h3 => ⟨v0, r, h1, h3, h2⟩⟩
theorem cv_last {Ro : Rp ε} : Conv K v0 (rsV v0 rs0) Ro (rs1 Ro) (fun e _ => e) := ⟨fun G vs a e ⟨r, h1, h2⟩ h3 => ⟨v0, by rw [h1]; rw [show r = [] from h2], h3⟩⟩
theorem cv_next {S : Rps β} {Ro : Rp ε} {S' : Rps α'} {ins : ε → β → α'} (h : Conv K v0 S Ro S' ins) : Conv K v0 (rsC R S) Ro (rsC R S') (fun e a => (a.1, ins e a.2)) := ⟨fun G vs a e ⟨v, r, h1, h2, h3⟩ h4 => ⟨v, r, h1, h2, h.go _ _ _ _ h3 h4⟩⟩
theorem e_cv {v : V} {x : α} (r : R.r K G v x) : EvE K fm (tC v) σ G O R (.ok x) := fun G1 H1 a k Q q => q v G1 H1 (Stp.refl k.gh) (R.mono a r)
theorem z_pure {f : δ → Res α} (obm : Obm Ob) (h : ∀ d O G', Same G G' → Ob d v0 G' O → EvE K fm te σ G' (La ++ (O ++ Lb)) R (f d)) : EvS K fm σ G La Lb Ob v0 te R (pureS f) := fun d O G1 H1 e hs ob Q q =>
  h d O G1 e ob G1 H1 (Same.refl _) hs.kn Q (Res.wp_mono (Res.wp_bind q) (fun x q v G2 H2 s r => q v G2 O H2 s.gg (hs.stp s) (obm _ _ _ _ _ s.gg ob) r) fun _ _ z => z)
theorem z_pure0 (obm : Obm Ob) (h : ∀ O, EvE K fm te σ G (La ++ (O ++ Lb)) R m) : EvS K fm σ G La Lb Ob v0 te R (pureS fun _ => m) := z_pure obm fun d O G' e _ => (h O).mono e
theorem zt_pure {tt : TT} {f : δ → Res Bool} (obm : Obm Ob) (h : ∀ d O G', Same G G' → Ob d v0 G' O → EvT fm tt σ G' (La ++ (O ++ Lb)) (f d)) : EvST fm σ G La Lb Ob v0 tt (pureS f) := fun d O G1 H1 e hs ob Q q =>
  h d O G1 e ob G1 H1 (Same.refl _) hs.kn Q (Res.wp_mono (Res.wp_bind q) (fun x q G2 H2 s => q G2 O H2 s.gg (hs.stp s) (obm _ _ _ _ _ s.gg ob)) fun _ _ z => z)
theorem zt_pure0 {tt : TT} {m : Res Bool} (obm : Obm Ob) (h : ∀ O, EvT fm tt σ G (La ++ (O ++ Lb)) m) : EvST fm σ G La Lb Ob v0 tt (pureS fun _ => m) := zt_pure obm fun d O G' e _ => (h O).mono e
/-! arguments -/
theorem zA_nil : EvSA K fm σ G La Lb Ob v0 tNil rs0 (pureS fun _ => .ok ()) := fun d O G1 H1 e hs ob Q q => q [] G1 O H1 (Same.refl _) hs ob rfl
theorem zA_one (h : EvS K fm σ G La Lb Ob v0 te R f) : EvSA K fm σ G La Lb Ob v0 (tCons te tNil) (rs1 R) f := fun d O G1 H1 e hs ob Q q =>
  h d O G1 H1 e hs ob _ (Res.wp_mono q (fun x q v G2 O2 H2 e2 hs2 ob2 r => q [v] G2 O2 H2 e2 hs2 ob2 ⟨v, rfl, r⟩) fun _ _ z => z)
theorem zA_cons {S : Rps β} {t : TA} (h : EvS K fm σ G La Lb Ob v0 te R f) (hr : EvSA K fm σ G La Lb Ob v0 t S g) : EvSA K fm σ G La Lb Ob v0 (tCons te t) (rsC R S) (pairS f g) := fun d O G1 H1 e hs ob Q q =>
  h d O G1 H1 e hs ob _ (Res.wp_mono (Res.wp_bind q) (fun x q v G2 O2 H2 e2 hs2 ob2 r =>
    hr x.2 O2 G2 H2 (e.trans e2) hs2 ob2 _ (Res.wp_mono (Res.wp_bind q) (fun y q vs G3 O3 H3 e3 hs3 ob3 r' => q (v :: vs) G3 O3 H3 (e2.trans e3) hs3 ob3 ⟨v, vs, rfl, R.mono e3 r, r'⟩) fun _ _ z => z)) fun _ _ z => z)
theorem zA_obj {S : Rps β} {t : TA} {i : Nat} (hv : σ[i]? = some (some v0)) (h : EvSA K fm σ G La Lb Ob v0 t S g) : EvSA K fm σ G La Lb Ob v0 (tCons (tVar i) t) (rsV v0 S) g := fun d O G1 H1 e hs ob Q q =>
  ⟨v0, hv, h d O G1 H1 e hs ob _ (Res.wp_mono q (fun y q vs G3 O3 H3 e3 hs3 ob3 r' => q (v0 :: vs) G3 O3 H3 e3 hs3 ob3 ⟨vs, rfl, r'⟩) fun _ _ z => z)⟩
/-! calls -/
theorem z_call {S : V → Rps β} {t : TA} {ma : δ → Res (β × δ)} {h : δ → β → Res (α × δ)} (ha : EvSA K fm σ G La Lb Ob v0 t (S v0) ma) : EvS K fm σ G La Lb Ob v0 (tCall (spN K fm.cl Ob S R h) [] fm.E t) R (callS ma h) := fun d O G1 H1 e hs ob Q q =>
  ha d O G1 H1 e hs ob _ (Res.wp_mono (Res.wp_bind q) (fun x q vs G2 O2 H2 e2 hs2 ob2 r =>
    ⟨without O2 H2, G2, O2, x.2, v0, x.1, hs2.sub, ob2, by rw [List.append_nil]; exact r, .mk (Res.wp_mono q (fun y q v G3 O3 H3 hs3 ob3 r3 => q v G3 O3 H3 (e2.trans hs3.g0) (hs2.back2 hs3) ob3 r3) fun c fs z => xw_sub hs2 z)⟩) fun _ _ z => z)
theorem z_callP {S : Rps β} {t : TA} {ma : δ → Res (β × δ)} {h : β → Res α} (obm : Obm Ob) (ha : EvSA K fm σ G La Lb Ob v0 t S ma) : EvS K fm σ G La Lb Ob v0 (tCall (spP K fm.cl S R h) [] fm.E t) R (mapS ma h) := fun d O G1 H1 e hs ob Q q =>
  ha d O G1 H1 e hs ob _ (Res.wp_mono (Res.wp_bind q) (fun x q vs G2 O2 H2 e2 hs2 ob2 r =>
    ⟨G2, x.1, hs2.gh, by rw [List.append_nil]; exact r, .mk (Res.wp_mono (Res.wp_bind q) (fun y q v G3 H3 s r3 => q v G3 O2 H3 (e2.trans s.gg) (hs2.stp s) (obm _ _ _ _ _ s.gg ob2) r3) fun c fs z H' dd a b => z H' dd (hs2.fr.trans a) b)⟩) fun _ _ z => z)
theorem z_callR {Sg : Rps β} {Ss : Rps α'} {ins : ε → β → α'} {Ro : Rp ε} {ro : δ → ε} {t : TA} {ma : δ → Res (β × δ)} {h : α' → Res α} (obm : Obm Ob) (L : Lends K Ob Ro ro) (sc : Sc R) (cv : Conv K v0 Sg Ro Ss ins) (ha : EvSA K fm σ G La Lb Ob v0 t Sg ma) :
    EvS K fm σ G La Lb Ob v0 (tCall (spP K fm.cl Ss R h) [] fm.E t) R (readS ma fun d a => h (ins (ro d) a)) := fun d O G1 H1 e hs ob Q q =>
  ha d O G1 H1 e hs ob _ (Res.wp_mono (Res.wp_bind q) (fun x q vs G2 O2 H2 e2 hs2 ob2 r => by
    obtain ⟨Gl, e3, e4, rr⟩ := L fm x.2 v0 G2 O2 _ H2 hs2.kn (fun p hp => List.mem_append_right _ (List.mem_append_left _ hp)) ob2
    exact ⟨Gl, ins (ro x.2) x.1, e4, by rw [List.append_nil]; exact cv.go _ _ _ _ (Sg.mono e3 r) rr, .mk (Res.wp_mono (Res.wp_bind q) (fun y q v G3 H3 s r3 => q v G2 O2 H3 e2 (hs2.stp (Stp.grow hs2.gh s.hh)) ob2 (sc _ _ _ _ _ r3)) fun c fs z H' dd a b => z H' dd (hs2.fr.trans a) b)⟩) fun _ _ z => z)
theorem z_meth {S : Rps β} {t : TA} {i : Nat} {C : Addr} {mt : Str} {ma : δ → Res (β × δ)} {h : δ → β → Res (α × δ)} (hC : ObjM C Ob mt) (hv : σ[i]? = some (some v0)) (ha : EvSA K fm σ G La Lb Ob v0 t S ma) :
    EvS K fm σ G La Lb Ob v0 (tMeth C mt (spN K fm.cl Ob (fun v0 => rsV v0 S) R h) [] fm.E (tVar i) t) R (callS ma h) := fun d O G1 H1 e hs ob Q q => by
  obtain ⟨p, dx, fs, e0, hp, hl⟩ := hC _ _ _ _ ob
  refine ⟨v0, hv, p, dx, fs, e0, (hs.kn.own _ (List.mem_append_right _ (List.mem_append_left _ hp))), hl, ?_⟩
  exact ha d O G1 H1 e hs ob _ (Res.wp_mono (Res.wp_bind q) (fun x q vs G2 O2 H2 e2 hs2 ob2 r =>
    ⟨without O2 H2, G2, O2, x.2, v0, x.1, hs2.sub, ob2, by rw [List.append_nil]; exact ⟨vs, rfl, r⟩, .mk (Res.wp_mono q (fun y q v G3 O3 H3 hs3 ob3 r3 => q v G3 O3 H3 (e2.trans hs3.g0) (hs2.back2 hs3) ob3 r3) fun c fs z => xw_sub hs2 z)⟩) fun _ _ z => z)
/-- a method without arguments -/
theorem z_methR {Sg : Rps β} {Ro : Rp ε} {ro : δ → ε} {t : TA} {i : Nat} {C : Addr} {mt : Str} {ma : δ → Res (β × δ)} {h : ε × β → Res α} (obm : Obm Ob) (hC : ObjM C Ob mt) (L : Lends K Ob Ro ro) (sc : Sc R) (hv : σ[i]? = some (some v0)) (ha : EvSA K fm σ G La Lb Ob v0 t Sg ma) :
    EvS K fm σ G La Lb Ob v0 (tMeth C mt (spP K fm.cl (rsC Ro Sg) R h) [] fm.E (tVar i) t) R (readS ma fun d a => h (ro d, a)) := fun d O G1 H1 e hs ob Q q => by
  obtain ⟨p, dx, fs, e0, hp, hl⟩ := hC _ _ _ _ ob
  refine ⟨v0, hv, p, dx, fs, e0, (hs.kn.own _ (List.mem_append_right _ (List.mem_append_left _ hp))), hl, ?_⟩
  refine ha d O G1 H1 e hs ob _ (Res.wp_mono (Res.wp_bind q) (fun x q vs G2 O2 H2 e2 hs2 ob2 r => ?_) fun _ _ z => z)
  obtain ⟨Gl, e3, e4, rr⟩ := L fm x.2 v0 G2 O2 _ H2 hs2.kn (fun p hp => List.mem_append_right _ (List.mem_append_left _ hp)) ob2
  exact ⟨Gl, (ro x.2, x.1), e4, by rw [List.append_nil]; exact ⟨v0, vs, rfl, rr, Sg.mono e3 r⟩, .mk (Res.wp_mono (Res.wp_bind q) (fun y q v G3 H3 s r3 => q v G2 O2 H3 e2 (hs2.stp (Stp.grow hs2.gh s.hh)) ob2 (sc _ _ _ _ _ r3)) fun c fs z H' dd a b => z H' dd (hs2.fr.trans a) b)⟩
/-! operators over what writes -/
theorem z_op1 {Dv : V → TE} {h : α → Res γ} (obm : Obm Ob) (ha : EvS K fm σ G La Lb Ob v0 ta R f) (hp : ∀ v x G' O, Same G G' → R.r K G' v x → EvE K fm (Dv v) σ G' O T (h x)) (hC : ∀ H Q, (ta σ H fun v H1 => Dv v σ H1 Q) → te σ H Q) :
    EvS K fm σ G La Lb Ob v0 te T (mapS f h) := fun d O G1 H1 e hs ob Q q => hC _ _ <|
  ha d O G1 H1 e hs ob _ (Res.wp_mono (Res.wp_bind q) (fun x q v G2 O2 H2 e2 hs2 ob2 r =>
    hp v x.1 G2 _ (e.trans e2) r G2 H2 (Same.refl _) hs2.kn Q (Res.wp_mono (Res.wp_bind q) (fun y q v G3 H3 s r3 => q v G3 O2 H3 (e2.trans s.gg) (hs2.stp s) (obm _ _ _ _ _ s.gg ob2) r3) fun _ _ z => z)) fun _ _ z => z)
theorem z_op2 {Dv : V → V → TE} {h : α → β → Res γ} (obm : Obm Ob) (ha : EvS K fm σ G La Lb Ob v0 ta R f) (hb : EvS K fm σ G La Lb Ob v0 tb S g) (hp : ∀ v w x y G' O, Same G G' → R.r K G' v x → S.r K G' w y → EvE K fm (Dv v w) σ G' O T (h x y))
    (hC : ∀ H Q, (ta σ H fun v H1 => tb σ H1 fun w H2 => Dv v w σ H2 Q) → te σ H Q) : EvS K fm σ G La Lb Ob v0 te T (map2S f g h) := fun d O G1 H1 e hs ob Q q => hC _ _ <|
  ha d O G1 H1 e hs ob _ (Res.wp_mono (Res.wp_bind q) (fun x q v G2 O2 H2 e2 hs2 ob2 r =>
    hb x.2 O2 G2 H2 (e.trans e2) hs2 ob2 _ (Res.wp_mono (Res.wp_bind q) (fun y q w G3 O3 H3 e3 hs3 ob3 r' =>
      hp v w x.1 y.1 G3 _ ((e.trans e2).trans e3) (R.mono e3 r) r' G3 H3 (Same.refl _) hs3.kn Q (Res.wp_mono (Res.wp_bind q) (fun z q v G4 H4 s r3 => q v G4 O3 H4 ((e2.trans e3).trans s.gg) (hs3.stp s) (obm _ _ _ _ _ s.gg ob3) r3) fun _ _ z => z)) fun _ _ z => z)) fun _ _ z => z)
theorem z_ite {c : TT} {mc : δ → Res (Bool × δ)} {g : δ → Res (α × δ)} (hc : EvST fm σ G La Lb Ob v0 c mc) (ha : EvS K fm σ G La Lb Ob v0 ta R f) (hb : EvS K fm σ G La Lb Ob v0 tb R g) : EvS K fm σ G La Lb Ob v0 (tIf c ta tb) R (iteS mc f g) := fun d O G1 H1 e hs ob Q q =>
  hc d O G1 H1 e hs ob _ (Res.wp_mono (Res.wp_bind q) (fun x q G2 O2 H2 e2 hs2 ob2 => by
    obtain ⟨b, d2⟩ := x
    cases b with
    | true => exact ha d2 O2 G2 H2 (e.trans e2) hs2 ob2 Q (Res.wp_mono q (fun y q v G3 O3 H3 e3 => q v G3 O3 H3 (e2.trans e3)) fun _ _ z => z)
    | false => exact hb d2 O2 G2 H2 (e.trans e2) hs2 ob2 Q (Res.wp_mono q (fun y q v G3 O3 H3 e3 => q v G3 O3 H3 (e2.trans e3)) fun _ _ z => z)) fun _ _ z => z)
/-! tests -/
theorem zt_val {f : δ → Res (Bool × δ)} (h : EvS K fm σ G La Lb Ob v0 te rB f) : EvST fm σ G La Lb Ob v0 (tB te) f := fun d O G1 H1 e hs ob Q q =>
  h d O G1 H1 e hs ob _ (Res.wp_mono q (fun x q v G2 O2 H2 e2 hs2 ob2 r => ⟨x.1, r, q G2 O2 H2 e2 hs2 ob2⟩) fun _ _ z => z)
theorem zt_test {f : δ → Res (Bool × δ)} (h : EvS K fm σ G La Lb Ob v0 te rB f) : EvST fm σ G La Lb Ob v0 (tTest te) f := zt_val h
theorem zt_not {t : TT} {f : δ → Res (Bool × δ)} (h : EvST fm σ G La Lb Ob v0 t f) : EvST fm σ G La Lb Ob v0 (tNot t) (mapS f fun b => .ok (!b)) := fun d O G1 H1 e hs ob Q q =>
  h d O G1 H1 e hs ob _ (Res.wp_mono (Res.wp_bind q) (fun x q G2 O2 H2 e2 hs2 ob2 => q G2 O2 H2 e2 hs2 ob2) fun _ _ z => z)
theorem zt_and {t u : TT} {f g : δ → Res (Bool × δ)} (h : EvST fm σ G La Lb Ob v0 t f) (h' : EvST fm σ G La Lb Ob v0 u g) : EvST fm σ G La Lb Ob v0 (tAnd t u) (andS f g) := fun d O G1 H1 e hs ob Q q =>
  h d O G1 H1 e hs ob _ (Res.wp_mono (Res.wp_bind q) (fun x q G2 O2 H2 e2 hs2 ob2 => by
    obtain ⟨b, d2⟩ := x
    cases b with
    | true => exact h' d2 O2 G2 H2 (e.trans e2) hs2 ob2 Q (Res.wp_mono q (fun y q G3 O3 H3 e3 => q G3 O3 H3 (e2.trans e3)) fun _ _ z => z)
    | false => exact q G2 O2 H2 e2 hs2 ob2) fun _ _ z => z)
theorem zt_or {t u : TT} {f g : δ → Res (Bool × δ)} (h : EvST fm σ G La Lb Ob v0 t f) (h' : EvST fm σ G La Lb Ob v0 u g) : EvST fm σ G La Lb Ob v0 (tOr t u) (orS f g) := fun d O G1 H1 e hs ob Q q =>
  h d O G1 H1 e hs ob _ (Res.wp_mono (Res.wp_bind q) (fun x q G2 O2 H2 e2 hs2 ob2 => by
    obtain ⟨b, d2⟩ := x
    cases b with
    | false => exact h' d2 O2 G2 H2 (e.trans e2) hs2 ob2 Q (Res.wp_mono q (fun y q G3 O3 H3 e3 => q G3 O3 H3 (e2.trans e3)) fun _ _ z => z)
    | true => exact q G2 O2 H2 e2 hs2 ob2) fun _ _ z => z)
theorem z_and {f g : δ → Res (Bool × δ)} (h : EvS K fm σ G La Lb Ob v0 ta rB f) (h' : EvS K fm σ G La Lb Ob v0 tb rB g) : EvS K fm σ G La Lb Ob v0 (tAndV ta tb) rB (andS f g) := fun d O G1 H1 e hs ob Q q =>
  h d O G1 H1 e hs ob _ (Res.wp_mono (Res.wp_bind q) (fun x q v G2 O2 H2 e2 hs2 ob2 r => ⟨x.1, r, by
    obtain ⟨b, d2⟩ := x
    cases b with
    | true => exact h' d2 O2 G2 H2 (e.trans e2) hs2 ob2 Q (Res.wp_mono q (fun y q v G3 O3 H3 e3 => q v G3 O3 H3 (e2.trans e3)) fun _ _ z => z)
    | false => exact q _ G2 O2 H2 e2 hs2 ob2 rfl⟩) fun _ _ z => z)
theorem z_or {f g : δ → Res (Bool × δ)} (h : EvS K fm σ G La Lb Ob v0 ta rB f) (h' : EvS K fm σ G La Lb Ob v0 tb rB g) : EvS K fm σ G La Lb Ob v0 (tOrV ta tb) rB (orS f g) := fun d O G1 H1 e hs ob Q q =>
  h d O G1 H1 e hs ob _ (Res.wp_mono (Res.wp_bind q) (fun x q v G2 O2 H2 e2 hs2 ob2 r => ⟨x.1, r, by
    obtain ⟨b, d2⟩ := x
    cases b with
    | false => exact h' d2 O2 G2 H2 (e.trans e2) hs2 ob2 Q (Res.wp_mono q (fun y q v G3 O3 H3 e3 => q v G3 O3 H3 (e2.trans e3)) fun _ _ z => z)
    | true => exact q _ G2 O2 H2 e2 hs2 ob2 rfl⟩) fun _ _ z => z)
/-! what reads the object in a pure expression -/
theorem e_lendZ {Ro : Rp ε} {ro : δ → ε} (obm : Obm Ob) (L : Lends K Ob Ro ro) (sc : Sc R) (ob : Ob d v0 G O) (h : ∀ G', Same G G' → Ro.r K G' v0 (ro d) → EvE K fm te σ G' (La ++ (O ++ Lb)) R m) : EvE K fm te σ G (La ++ (O ++ Lb)) R m := fun G1 H1 e k Q q => by
  obtain ⟨Gl, e3, e4, rr⟩ := L fm d v0 G1 O _ H1 k (fun p hp => List.mem_append_right _ (List.mem_append_left _ hp)) (obm _ _ _ _ _ e ob)
  exact h Gl (e.trans e3) rr Gl H1 (Same.refl _) ⟨k.fr, e4, k.own⟩ Q (Res.wp_mono q (fun x q v G2 H2 s r => q v G1 H2 (Stp.grow k.gh s.hh) (sc _ _ _ _ _ r)) fun _ _ z => z)
theorem n_lendZ {Ro : Rp ε} {ro : δ → ε} {m : Res (List α)} (obm : Obm Ob) (L : Lends K Ob Ro ro) (sc : Sc R) (ob : Ob d v0 G O) (h : ∀ G', Same G G' → Ro.r K G' v0 (ro d) → EvN K fm te σ G' (La ++ (O ++ Lb)) R m) : EvN K fm te σ G (La ++ (O ++ Lb)) R m := fun G1 H1 e k Q q => by
  obtain ⟨Gl, e3, e4, rr⟩ := L fm d v0 G1 O _ H1 k (fun p hp => List.mem_append_right _ (List.mem_append_left _ hp)) (obm _ _ _ _ _ e ob)
  exact h Gl (e.trans e3) rr Gl H1 (Same.refl _) ⟨k.fr, e4, k.own⟩ Q (Res.wp_mono q (fun xs q p vs G2 H2 s hp gp hl r => q p vs G1 H2 (Stp.grow k.gh s.hh) hp (same_back k.gh hp) hl (Paired.mapP r fun _ _ z => sc _ _ _ _ _ z)) fun _ _ z => z)
theorem t_lendZ {Ro : Rp ε} {ro : δ → ε} {t : TT} {m : Res Bool} (obm : Obm Ob) (L : Lends K Ob Ro ro) (ob : Ob d v0 G O) (h : ∀ G', Same G G' → Ro.r K G' v0 (ro d) → EvT fm t σ G' (La ++ (O ++ Lb)) m) : EvT fm t σ G (La ++ (O ++ Lb)) m := fun G1 H1 e k Q q => by
  obtain ⟨Gl, e3, e4, rr⟩ := L fm d v0 G1 O _ H1 k (fun p hp => List.mem_append_right _ (List.mem_append_left _ hp)) (obm _ _ _ _ _ e ob)
  exact h Gl (e.trans e3) rr Gl H1 (Same.refl _) ⟨k.fr, e4, k.own⟩ Q (Res.wp_mono q (fun x q G2 H2 s => q G1 H2 (Stp.grow k.gh s.hh)) fun _ _ z => z)
/-! statements -/
theorem w_asgZ {g : TG} {Ss : Rps α} {is : List Nat} {mk : α × δ → Res ρ} (tg : Tgt K g R Ss is) (he : EvS K fm σ G La Lb Ob v0 te R f) (hs : Hs fm G (La ++ (O ++ Lb)) H) (ob : Ob d v0 G O) (hm : Wp ((f d).bind mk) Q fm.xw)
    (k : ∀ x vs G' O' H', Same G G' → Hs fm G' (La ++ (O' ++ Lb)) H' → Ob x.2 v0 G' O' → Ss.r K G' vs x.1 → Wp (mk x) Q fm.xw → tr D (setL σ is vs) H') : tSeq (tAsg te g) tr D σ H :=
  he d O G H (Same.refl _) hs ob _ (Res.wp_mono (Res.wp_bind hm.out) (fun x q v G2 O2 H2 e2 hs2 ob2 r => tg G2 H2 v x.1 σ _ hs2.gh r fun vs rv => k x vs G2 O2 H2 e2 hs2 ob2 rv (.mk q)) fun _ _ z => z)
theorem w_dropZ {mk : α × δ → Res ρ} (he : EvS K fm σ G La Lb Ob v0 te R f) (hs : Hs fm G (La ++ (O ++ Lb)) H) (ob : Ob d v0 G O) (hm : Wp ((f d).bind mk) Q fm.xw)
    (k : ∀ x G' O' H', Same G G' → Hs fm G' (La ++ (O' ++ Lb)) H' → Ob x.2 v0 G' O' → Wp (mk x) Q fm.xw → tr D σ H') : tSeq (tDrop te) tr D σ H :=
  he d O G H (Same.refl _) hs ob _ (Res.wp_mono (Res.wp_bind hm.out) (fun x q v G2 O2 H2 e2 hs2 ob2 r => k x G2 O2 H2 e2 hs2 ob2 (.mk q)) fun _ _ z => z)
theorem w_retZ {kr : α × δ → ρ} (he : EvS K fm σ G La Lb Ob v0 te R f) (hs : Hs fm G (La ++ (O ++ Lb)) H) (ob : Ob d v0 G O) (hm : Wp ((f d).bind fun r => .ok (kr r)) Q fm.xw)
    (k : ∀ x v G' O' H', Same G G' → Hs fm G' (La ++ (O' ++ Lb)) H' → Ob x.2 v0 G' O' → R.r K G' v x.1 → Q (kr x) → D.rt v H') : tSeq (tRet te) tr D σ H :=
  he d O G H (Same.refl _) hs ob _ (Res.wp_mono (Res.wp_bind hm.out) (fun x q v G2 O2 H2 e2 hs2 ob2 r => k x v G2 O2 H2 e2 hs2 ob2 r q) fun _ _ z => z)
theorem w_retZ0 {Q : α × δ → Prop} (he : EvS K fm σ G La Lb Ob v0 te R f) (hs : Hs fm G (La ++ (O ++ Lb)) H) (ob : Ob d v0 G O) (hm : Wp (f d) Q fm.xw)
    (k : ∀ x v G' O' H', Same G G' → Hs fm G' (La ++ (O' ++ Lb)) H' → Ob x.2 v0 G' O' → R.r K G' v x.1 → Q x → D.rt v H') : tSeq (tRet te) tr D σ H :=
  he d O G H (Same.refl _) hs ob _ (Res.wp_mono hm.out (fun x q v G2 O2 H2 e2 hs2 ob2 r => k x v G2 O2 H2 e2 hs2 ob2 r q) fun _ _ z => z)
theorem w_ifZ {c : TT} {mc : δ → Res (Bool × δ)} {a b : δ → Res ρ} (hc : EvST fm σ G La Lb Ob v0 c mc) (hs : Hs fm G (La ++ (O ++ Lb)) H) (ob : Ob d v0 G O) (hm : Wp ((mc d).bind fun x => if x.1 = true then a x.2 else b x.2) Q fm.xw)
    (h1 : ∀ d' G' O' H', Same G G' → Hs fm G' (La ++ (O' ++ Lb)) H' → Ob d' v0 G' O' → Wp (a d') Q fm.xw → tt { D with nx := tr D } σ H') (h2 : ∀ d' G' O' H', Same G G' → Hs fm G' (La ++ (O' ++ Lb)) H' → Ob d' v0 G' O' → Wp (b d') Q fm.xw → tu { D with nx := tr D } σ H') : tSeq (tIfS c tt tu) tr D σ H :=
  hc d O G H (Same.refl _) hs ob _ (Res.wp_mono (Res.wp_bind hm.out) (fun x q G2 O2 H2 e2 hs2 ob2 => by
    obtain ⟨k, d2⟩ := x
    cases k with
    | true => exact h1 d2 G2 O2 H2 e2 hs2 ob2 (.mk q)
    | false => exact h2 d2 G2 O2 H2 e2 hs2 ob2 (.mk q)) fun _ _ z => z)
end
end Mw

namespace Mw
open PySem PySem.Spec PyProof.Rows L2
/-! ### loops whose returns tell the object's state -/
structure ZEnds {S ρ : Type} (fm : Fm) (G : Hp) (W : S → L2.St → Hp → Own → Prop) (RT : ρ → V → Hp → Own → Prop) (Qb : Tn S ρ → Prop) (D : Ends) : Prop where
  nx : ∀ s σ G1 G2 O H, Same G G2 → W s σ G1 O → Same G1 G2 → Hs fm G2 O H → Qb (.nx s) → D.nx σ H
  ct : ∀ s σ G1 G2 O H, Same G G2 → W s σ G1 O → Same G1 G2 → Hs fm G2 O H → Qb (.nx s) → D.ct σ H
  bk : ∀ s σ G1 G2 O H, Same G G2 → W s σ G1 O → Same G1 G2 → Hs fm G2 O H → Qb (.bk s) → D.bk σ H
  rt : ∀ r v G2 O H, Hs fm G2 O H → RT r v G2 O → Qb (.rt r) → D.rt v H
section
variable {α β γ δ ρ : Type} {K : PySem.W.Frag} {fm : Fm} {σ : L2.St} {G G' H H' : Hp} {O : Own}
variable {te ta tb tc : TE} {R : Rp α} {S : Rp β} {T : Rp γ} {m : Res α} {n : Res β}
variable {D : Ends} {tr tt tu tw : TS} {Q : ρ → Prop}
theorem s_forBZ {Oi : Own} {S : Type} {Sr : Type} {ti : TI} {g : TG} {Ss : Rps α} {is : List Nat} {m : Res (List α)} {f : α → S → Res (Tn S Sr)} {mk : Lp S Sr → Res ρ} {s0 : S} (W : S → L2.St → Hp → Own → Prop) (RT : Sr → V → Hp → Own → Prop)
    (hi : EvI K fm ti σ G O Oi R m) (hO : ∀ s σ G O, W s σ G O → ∀ p ∈ Oi, p ∈ O) (tg : Tgt K g R Ss is) (hs : Hs fm G O H) (hm : ((m.bind fun xs => forB f xs s0).bind mk).wp Q fm.xw) (h0 : W s0 σ G O)
    (hb : ∀ x s σ' G1 G' O' H' vs (D' : Ends) (Qb : Tn S Sr → Prop), Same G G' → W s σ' G1 O' → Same G1 G' → Hs fm G' O' H' → Ss.r K G' vs x → ZEnds fm G' W RT Qb D' → (f x s).wp Qb fm.xw → tw D' (setL σ' is vs) H')
    (hn : ∀ s σ' G1 G' O' H', Same G G' → W s σ' G1 O' → Same G1 G' → Hs fm G' O' H' → (mk (.nx s)).wp Q fm.xw → tr D σ' H')
    (hr : ∀ r v G2 O2 H2, Hs fm G2 O2 H2 → RT r v G2 O2 → (mk (.rt r)).wp Q fm.xw → D.rt v H2) : tSeq (tFor ti g tw) tr D σ H := by
  refine hi G H (Same.refl _) hs.kn _ (Res.wp_mono (Res.wp_bind (Res.wp_bind hm)) (fun xs q J G2 H2 s it => ?_) fun _ _ z => z)
  refine ⟨fun i mm σ' H' => mm = xs.length - i ∧ i ≤ xs.length ∧ ∃ s' G1 G' O', Same G2 G' ∧ W s' σ' G1 O' ∧ Same G1 G' ∧ Hs fm G' O' H' ∧ ((forB f (xs.drop i) s').bind mk).wp Q fm.xw,
    ⟨xs.length, by simp, Nat.zero_le _, s0, G, G2, O, Same.refl _, h0, s.gg, hs.stp s, by
      rw [List.drop_zero]
      cases hx : forB f xs s0 with
      | ok a => rw [hx] at q; exact q
      | exc c fs => rw [hx] at q; exact q
      | stuck => rw [hx] at q; exact q⟩, ?_⟩
  rintro i mm σ' H' ⟨rfl, hle, s', G1, G', O', g2, w, g1, hs', q'⟩
  by_cases hlt : i < xs.length
  · refine .inr ⟨it.go i G' H' g2 hs'.gh (fun p hp => (hs'.own p (hO _ _ _ _ w p hp)).1) hlt, _, fun σ2 H2 z => ⟨xs.length - (i + 1), by omega, z⟩, fun v H3 y => ?_⟩
    obtain ⟨x, G4, hx, s4, rx⟩ := it.yld i G' H' v H3 g2 hs'.gh (fun p hp => (hs'.own p (hO _ _ _ _ w p hp)).1) hlt y
    have hdrop : xs.drop i = x :: xs.drop (i + 1) := by
      obtain ⟨h1, h2⟩ := List.getElem?_eq_some_iff.mp hx
      rw [List.drop_eq_getElem_cons h1, h2]
    rw [hdrop] at q'
    refine tg G4 H3 v x _ _ s4.gh rx fun vs rvs => ?_
    refine hb x s' σ' G1 G4 O' H3 vs _ (fun t => ((match t with | .nx s' => forB f (xs.drop (i + 1)) s' | .bk s' => .ok (.nx s') | .rt r => .ok (.rt r)).bind mk).wp Q fm.xw) ((s.gg.trans g2).trans s4.gg) w (g1.trans s4.gg) (hs'.stp s4) rvs ⟨?_, ?_, ?_, ?_⟩ (Res.wp_bind (by
      have := q'
      rw [forB] at this
      cases hx : f x s' with
      | ok a => rw [hx] at this; exact this
      | exc c fs => rw [hx] at this; exact this
      | stuck => rw [hx] at this; exact this))
    · exact fun s5 σ5 G5 G6 O5 H5 a b c d e => ⟨rfl, hlt, s5, G5, G6, O5, (g2.trans s4.gg).trans a, b, c, d, e⟩
    · exact fun s5 σ5 G5 G6 O5 H5 a b c d e => ⟨rfl, hlt, s5, G5, G6, O5, (g2.trans s4.gg).trans a, b, c, d, e⟩
    · exact fun s5 σ5 G5 G6 O5 H5 a b c d e => hn s5 σ5 G5 G6 O5 H5 (((s.gg.trans g2).trans s4.gg).trans a) b c d e
    · exact fun r v G5 O5 H5 a b c => hr r v G5 O5 H5 a b c
  · have ei : i = xs.length := by omega
    subst ei
    rw [List.drop_length] at q'
    exact .inl ⟨it.stop G' H' g2 hs'.gh (fun p hp => (hs'.own p (hO _ _ _ _ w p hp)).1), hn s' σ' G1 G' O' H' (s.gg.trans g2) w g1 hs' q'⟩
theorem s_whBZ {S : Type} {Sr : Type} {c : TT} {mc : S → Res Bool} {f : S → Res (Tn S Sr)} {mk : Lp S Sr → Res ρ} {s0 : S} {fuel : Nat} (W : S → L2.St → Hp → Own → Prop) (RT : Sr → V → Hp → Own → Prop)
    (hs : Hs fm G O H) (hm : ((whB mc f fuel s0).bind mk).wp Q fm.xw) (h0 : W s0 σ G O)
    (hc : ∀ s σ' G1 G' O', Same G G' → W s σ' G1 O' → Same G1 G' → EvT fm c σ' G' O' (mc s))
    (hb : ∀ s σ' G1 G' O' H' (D' : Ends) (Qb : Tn S Sr → Prop), Same G G' → W s σ' G1 O' → Same G1 G' → Hs fm G' O' H' → ZEnds fm G' W RT Qb D' → (f s).wp Qb fm.xw → tw D' σ' H')
    (hn : ∀ s σ' G1 G' O' H', Same G G' → W s σ' G1 O' → Same G1 G' → Hs fm G' O' H' → (mk (.nx s)).wp Q fm.xw → tr D σ' H')
    (hr : ∀ r v G2 O2 H2, Hs fm G2 O2 H2 → RT r v G2 O2 → (mk (.rt r)).wp Q fm.xw → D.rt v H2) : tSeq (tWhile c tw) tr D σ H := by
  refine ⟨fun mm σ' H' => ∃ s' G1 G' O', Same G G' ∧ W s' σ' G1 O' ∧ Same G1 G' ∧ Hs fm G' O' H' ∧ ((whB mc f mm s').bind mk).wp Q fm.xw, ⟨fuel, s0, G, G, O, Same.refl _, h0, Same.refl _, hs, hm⟩, ?_⟩
  rintro mm σ' H' ⟨s', G1, G', O', g, w, g1, hs', q'⟩
  cases mm with
  | zero => exact q'.elim
  | succ mm =>
    have q1 : (mc s').wp (fun b => ((if b = true then (f s').bind fun t => match t with | .nx s' => whB mc f mm s' | .bk s' => .ok (.nx s') | .rt r => .ok (.rt r) else .ok (.nx s')).bind mk).wp Q fm.xw) fm.xw := by
      rw [whB] at q'
      cases hx : mc s' with
      | ok a => rw [hx] at q'; exact q'
      | exc c fs => rw [hx] at q'; exact q'
      | stuck => rw [hx] at q'; exact q'
    refine hc s' σ' G1 G' O' g w g1 G' H' (Same.refl _) hs'.kn _ (Res.wp_mono q1 (fun b q2 G2 H2 s2 => ?_) fun _ _ z => z)
    cases b with
    | true =>
      refine iteT ⟨_, fun σ2 H2 z => ⟨mm, Nat.lt_succ_self _, z⟩, ?_⟩
      rw [if_pos rfl] at q2
      refine hb s' σ' G1 G2 O' H2 _ (fun t => ((match t with | .nx s' => whB mc f mm s' | .bk s' => .ok (.nx s') | .rt r => .ok (.rt r)).bind mk).wp Q fm.xw) (g.trans s2.gg) w (g1.trans s2.gg) (hs'.stp s2) ⟨?_, ?_, ?_, ?_⟩ (Res.wp_bind (by
        cases hx : f s' with
        | ok a => rw [hx] at q2; exact q2
        | exc c fs => rw [hx] at q2; exact q2
        | stuck => rw [hx] at q2; exact q2))
      · exact fun s5 σ5 G5 G6 O5 H5 a b c d e => ⟨s5, G5, G6, O5, (g.trans s2.gg).trans a, b, c, d, e⟩
      · exact fun s5 σ5 G5 G6 O5 H5 a b c d e => ⟨s5, G5, G6, O5, (g.trans s2.gg).trans a, b, c, d, e⟩
      · exact fun s5 σ5 G5 G6 O5 H5 a b c d e => hn s5 σ5 G5 G6 O5 H5 ((g.trans s2.gg).trans a) b c d e
      · exact fun r v G5 O5 H5 a b c => hr r v G5 O5 H5 a b c
    | false =>
      refine iteF ?_
      rw [if_neg Bool.false_ne_true] at q2
      exact hn s' σ' G1 G2 O' H2 (g.trans s2.gg) w (g1.trans s2.gg) (hs'.stp s2) q2
theorem w_forBZ {Oi : Own} {S : Type} {Sr : Type} {ti : TI} {g : TG} {Ss : Rps α} {is : List Nat} {m : Res (List α)} {f : α → S → Res (Tn S Sr)} {N : S → Res ρ} {Rt : Sr → Res ρ} {s0 : S} (W : S → L2.St → Hp → Own → Prop) (RT : Sr → V → Hp → Own → Prop)
    (hi : EvI K fm ti σ G O Oi R m) (hO : ∀ s σ G O, W s σ G O → ∀ p ∈ Oi, p ∈ O) (tg : Tgt K g R Ss is) (hs : Hs fm G O H) (hm : Wp ((m.bind fun xs => forB f xs s0).bind (Lp.el N Rt)) Q fm.xw) (h0 : W s0 σ G O)
    (hr : ∀ r v G2 O2 H2, Hs fm G2 O2 H2 → RT r v G2 O2 → (Rt r).wp Q fm.xw → D.rt v H2)
    (hb : ∀ x s σ' G1 G' O' H' vs (D' : Ends) (Qb : Tn S Sr → Prop), Same G G' → W s σ' G1 O' → Same G1 G' → Hs fm G' O' H' → Ss.r K G' vs x → ZEnds fm G' W RT Qb D' → Wp (f x s) Qb fm.xw → tw D' (setL σ' is vs) H')
    (hn : ∀ s σ' G1 G' O' H', Same G G' → W s σ' G1 O' → Same G1 G' → Hs fm G' O' H' → Wp (N s) Q fm.xw → tr D σ' H') : tSeq (tFor ti g tw) tr D σ H :=
  s_forBZ W RT hi hO tg hs hm.out h0 (fun x s σ' G1 G' O' H' vs D' Qb a b c d e f g => hb x s σ' G1 G' O' H' vs D' Qb a b c d e f (.mk g)) (fun s σ' G1 G' O' H' a b c d e => hn s σ' G1 G' O' H' a b c d (.mk e)) hr
theorem w_whBZ {S : Type} {Sr : Type} {c : TT} {mc : S → Res Bool} {f : S → Res (Tn S Sr)} {N : S → Res ρ} {Rt : Sr → Res ρ} {s0 : S} {fuel : Nat} (W : S → L2.St → Hp → Own → Prop) (RT : Sr → V → Hp → Own → Prop)
    (hs : Hs fm G O H) (hm : Wp ((whB mc f fuel s0).bind (Lp.el N Rt)) Q fm.xw) (h0 : W s0 σ G O)
    (hr : ∀ r v G2 O2 H2, Hs fm G2 O2 H2 → RT r v G2 O2 → (Rt r).wp Q fm.xw → D.rt v H2)
    (hc : ∀ s σ' G1 G' O', Same G G' → W s σ' G1 O' → Same G1 G' → EvT fm c σ' G' O' (mc s))
    (hb : ∀ s σ' G1 G' O' H' (D' : Ends) (Qb : Tn S Sr → Prop), Same G G' → W s σ' G1 O' → Same G1 G' → Hs fm G' O' H' → ZEnds fm G' W RT Qb D' → Wp (f s) Qb fm.xw → tw D' σ' H')
    (hn : ∀ s σ' G1 G' O' H', Same G G' → W s σ' G1 O' → Same G1 G' → Hs fm G' O' H' → Wp (N s) Q fm.xw → tr D σ' H') : tSeq (tWhile c tw) tr D σ H :=
  s_whBZ W RT hs hm.out h0 hc (fun s σ' G1 G' O' H' D' Qb a b c d e f => hb s σ' G1 G' O' H' D' Qb a b c d e (.mk f)) (fun s σ' G1 G' O' H' a b c d e => hn s σ' G1 G' O' H' a b c d (.mk e)) hr
end
end Mw

namespace Mw
open PySem PySem.Spec PyProof.Rows L2
section
variable {α β γ δ ρ : Type} {K : PySem.W.Frag} {fm : Fm} {σ : L2.St} {G G' H H' : Hp} {O : Own} {te tb : TE} {R : Rp α} {m : Res α} {D : Ends} {tr : TS} {Q : ρ → Prop}
/-! ### fields written -/
theorem w_fldV (j : Nat) {p C dx : Addr} {fs : List (Str × V)} {f : Str} {mk : α → Res ρ} (hx : EvV fm tb σ G O (.ref p)) (hj : O[j]? = some (p, .ins C dx fs)) (c : Cls K C) (na : NoAttr K C f) (hn : fs.length < 1000) (he : EvE K fm te σ G O R m) (hs : Hs fm G O H) (hm : Wp (m.bind mk) Q fm.xw)
    (k : ∀ x v G' H', Same G G' → Hs fm G' (O.set j (p, .ins C dx (putF f v fs))) H' → R.r K G' v x → Wp (mk x) Q fm.xw → tr D σ H') : tSeq (sFld K tb te f) tr D σ H :=
  he G H (Same.refl _) hs.kn _ (Res.wp_mono (Res.wp_bind hm.out) (fun x q v G2 H2 s r => hx G2 H2 s.gg (hs.stp s).kn _ ⟨p, C, dx, fs, rfl, ((hs.stp s).at j hj).1, c, na, hn, k x v G2 _ s.gg ((hs.stp s).set j hj) r (.mk q)⟩) fun _ _ z => z)
theorem w_fldN (j : Nat) {p C dx : Addr} {fs : List (Str × V)} {f : Str} {m : Res (List α)} {mk : List α → Res ρ} (hx : EvV fm tb σ G O (.ref p)) (hj : O[j]? = some (p, .ins C dx fs)) (c : Cls K C) (na : NoAttr K C f) (hn : fs.length < 1000) (he : EvN K fm te σ G O R m) (hs : Hs fm G O H) (hm : Wp (m.bind mk) Q fm.xw)
    (k : ∀ xs l vs G' H', Same G G' → Hs fm G' ((l, .lst vs) :: O.set j (p, .ins C dx (putF f (.ref l) fs))) H' → RLs R K G' vs xs → Wp (mk xs) Q fm.xw → tr D σ H') : tSeq (sFld K tb te f) tr D σ H :=
  he G H (Same.refl _) hs.kn _ (Res.wp_mono (Res.wp_bind hm.out) (fun xs q l vs G2 H2 s hp gp hl r => hx G2 H2 s.gg (hs.stp s).kn _ ⟨p, C, dx, fs, rfl, ((hs.stp s).at j hj).1, c, na, hn, k xs l vs G2 _ s.gg ((hs.new s hp gp hl).set (j + 1) (a := p) (o := .ins C dx fs) (by rw [List.getElem?_cons_succ]; exact hj)) r (.mk q)⟩) fun _ _ z => z)
theorem w_fldT (j : Nat) {p C dx : Addr} {fs : List (Str × V)} {f : Str} {mm : Res ρ} (hx : EvV fm tb σ G O (.ref p)) (hj : O[j]? = some (p, .ins C dx fs)) (c : Cls K C) (na : NoAttr K C f) (hn : fs.length < 1000) (hs : Hs fm G O H) (hm : Wp mm Q fm.xw)
    (k : ∀ l H', Hs fm G ((l, .dT []) :: O.set j (p, .ins C dx (putF f (.ref l) fs))) H' → Wp mm Q fm.xw → tr D σ H') : tSeq (sFld K tb tDNewT f) tr D σ H := fun l hl =>
  have s : Stp G H G (upd H l (.dT [])) := Stp.grow hs.gh (same_new hl)
  hx G _ (Same.refl _) (hs.stp s).kn _ ⟨p, C, dx, fs, rfl, ((hs.stp s).at j hj).1, c, na, hn, k l _ ((hs.new s hl (same_back hs.gh hl) upd_same).set (j + 1) (a := p) (o := .ins C dx fs) (by rw [List.getElem?_cons_succ]; exact hj)) hm⟩
/-! ### objects made -/
theorem a_nil : EvA K fm tNil σ G O rs0 (.ok ()) := fun G1 H1 e k Q q => q [] G1 H1 (Stp.refl k.gh) rfl
/-- what an `__init__` promises -/
def spI {α δ : Type} (K : PySem.W.Frag) (cl : Nat → Addr) (C : Addr) (Ob : δ → V → Hp → Own → Prop) (S : Rps α) (f : α → Res δ) : Sp := fun vs H Q E => ∃ F G p dx rest a, vs = .ref p :: rest ∧ Hs ⟨F, G, E, cl⟩ G [(p, .ins C dx [])] H ∧ S.r K G rest a ∧
  Wp (f a) (fun d => ∀ G' O' H', Hs ⟨F, G, E, cl⟩ G' O' H' → Ob d (.ref p) G' O' → Q .non H') (Fm.xw ⟨F, G, E, cl⟩)
/-- x = C(..) -/
theorem w_mkZ {i : Nat} {C : Addr} {Ob : δ → V → Hp → Own → Prop} {S : Rps β} {t : TA} {f : β → Res δ} {m : Res β} {mk : δ → Res ρ} (he : EvA K fm t σ G O S m) (hs : Hs fm G O H) (hm : Wp ((m.bind f).bind mk) Q fm.xw)
    (k : ∀ d v G' O' H', Same G G' → Hs fm G' (O ++ (O' ++ [])) H' → Ob d v G' O' → Wp (mk d) Q fm.xw → tr D (σ.set i (some v)) H') : tSeq (tAsg (tMake C (spI K fm.cl C Ob S f) [] fm.E t) (gName i)) tr D σ H :=
  he G H (Same.refl _) hs.kn _ (Res.wp_mono (Res.wp_bind (Res.wp_bind hm.out)) (fun c q vs G2 H2 s r => by
    intro x dx hx hdx hne
    have hs2 := hs.stp s
    have s1 := Stp.new (o := HO.own x) s.gh hdx
    have hs3 := hs2.stp s1
    have hx3 : upd H2 dx (HO.own x) x = none := by rw [upd_ne (fun e => hne e.symm)]; exact hx
    have hs4 := hs3.new (p := x) (o := .ins C dx []) (Stp.grow hs3.gh (same_new hx3)) hx3 (same_back hs3.gh hx3) upd_same
    have hs5 : Hs fm (upd G2 dx (.own x)) ([] ++ ([(x, .ins C dx [])] ++ O)) _ := hs4
    refine ⟨_, _, x, dx, vs, c, by rw [List.append_nil], hs5.sub, S.mono s1.gg r, .mk (Res.wp_mono (m := f c) q (fun d q G' O' H' h ob => ⟨rfl, ?_⟩) fun c fs z => xw_sub hs5 z)⟩
    exact k d _ G' O' H' ((s.gg.trans s1.gg).trans h.g0) ((hs5.back2 h).perm (by rw [List.append_nil, List.nil_append]; exact List.perm_append_comm)) ob (.mk q)) fun _ _ z => z)
/-- an object handed on as it stands, to be read alone from here on -/
theorem lnV {α : Type} {v0 : V} {S : Rps α} {n : Nat} (h : Ln S n) : Ln (rsV v0 S) (n + 1) := fun K G vs a ⟨r, e, t⟩ => by rw [e, List.length_cons, h K G r a t]
theorem ln0 : Ln rs0 0 := fun K G vs a e => by rw [show vs = [] from e]; rfl
end
end Mw

namespace Mw
open PySem PySem.Spec PyProof.Rows L2
/-! ### zip of two sequences, each a list or a tuple (true: tuple) -/
def SqB (t : Bool) (K : PySem.W.Frag) (H : Hp) (a : Addr) (xs : List V) : Prop := match t with | true => SqT K H a xs | false => SqL K H a xs
def HsB (t : Bool) (h : Heap) (a : Addr) (its : Array Value) : Prop := match t with | true => h.IsTuple a its | false => h.IsList a its
def ItB (t : Bool) (h : Heap) (it a : Addr) (i : Nat) : Prop := match t with | true => h.IsTupleIter it a i | false => h.IsListIter it a i
def obB (t : Bool) (a : Addr) : Obj := match t with | true => { cls := .type "tuple_iterator", data := .fields #[.ref a, .int 0 0] } | false => { cls := .type "list_iterator", data := .fields #[.ref a, .int 0 0] }
theorem same_b {t : Bool} {K : PySem.W.Frag} {H H' : Hp} {a : Addr} {xs : List V} (e : Same H H') (h : SqB t K H a xs) : SqB t K H' a xs := by
  cases t
  · exact same_l e h
  · exact same_t e h
theorem invB {X : Cx} {pins : List (Addr × Obj)} {σ : L2.St} {H : Hp} {s : Shared} (I : Inv X pins σ H s) {t : Bool} {a : Addr} {xs : List V} (h : SqB t X.K H a xs) :
    ∃ its : List Value, Vals xs its ∧ HsB t s.heap a its.toArray ∧ a < s.heap.objs.size := by
  cases t
  · obtain ⟨its, rv, p, _⟩ := I.list h
    exact ⟨its, rv, p.isList, p.lt⟩
  · obtain ⟨its, rv, p, _⟩ := I.tuple h
    obtain ⟨o, ho, _⟩ := id p
    exact ⟨its, rv, p, Heap.lt_size ho⟩
theorem injB {X : Cx} {pins : List (Addr × Obj)} {σ : L2.St} {H : Hp} {s : Shared} (I : Inv X pins σ H s) {t : Bool} {a : Addr} {xs ys : List V} (h : SqB t X.K H a xs) (h' : SqB t X.K H a ys) : xs = ys := by
  cases t
  · exact I.list_inj h h'
  · exact I.tuple_inj h h'
theorem drawsB {prog : Program} {w : World} {A : Around} (hh : A.handled = none) (t : Bool) (it l : Addr) (hne : l ≠ it) (items : Array Value) :
    Draws prog w A it [it, l] items.size (fun i v => items[i]? = some v) (fun i h => ItB t h it l i ∧ HsB t h l items) := by
  cases t
  · exact Draws.list hh it l hne items
  · exact Draws.tuple hh it l hne items
theorem beginsB (t : Bool) (l : Addr) (items : Array Value) : Begins (.ref l) (obB t l) fun h => HsB t h l items := by
  cases t
  · exact begins_list l items
  · exact begins_tuple l items
theorem itB_obj {t : Bool} {h : Heap} {it a : Addr} {i : Nat} (x : ItB t h it a i) : ∃ o, h.get? it = some o ∧ ∀ v, o.data ≠ .cell v := by
  cases t <;> (obtain ⟨o, e, _, d⟩ := x; exact ⟨o, e, fun v q => by rw [d] at q; cases q⟩)
theorem itB_at {t : Bool} {h h' : Heap} {it a : Addr} {i : Nat} (x : ItB t h it a i) (k : ∀ o, h.get? it = some o → h'.get? it = some o) : ItB t h' it a i := by
  cases t
  · exact Heap.IsListIter.at x k
  · exact Heap.IsTupleIter.at x k
theorem itB_new {t : Bool} {h : Heap} {it a : Addr} (e : h.get? it = some (obB t a)) : ItB t h it a 0 := by
  cases t
  · exact ⟨_, e, rfl, rfl⟩
  · exact ⟨_, e, rfl, rfl⟩
def ItzB (s t : Bool) (K : PySem.W.Frag) (a b : Addr) : It :=
  ⟨fun i H => ∃ (xs ys : List V) (x y : V), SqB s K H a xs ∧ SqB t K H b ys ∧ xs[i]? = some x ∧ ys[i]? = some y,
    fun i H v H' => ∃ T x y, v = .ref T ∧ H T = none ∧ H' = upd H T (.tup [x, y]) ∧ (∀ xs, SqB s K H a xs → xs[i]? = some x) ∧ ∀ ys, SqB t K H b ys → ys[i]? = some y,
    fun i H => ∃ xs ys : List V, SqB s K H a xs ∧ SqB t K H b ys ∧ i ≤ xs.length ∧ i ≤ ys.length ∧ (i = xs.length ∨ i = ys.length)⟩
theorem turn_zipB {P : Program} {w : World} {K : PySem.W.Frag} {elts : List Expr} {kk : Nat} {tpos : Pos} {u t : Bool} {a b z TI TO i1 i2 : Addr} (D : ZipApart z TI TO i1 i2 a b) (S : ZipSep2 z TI TO i1 i2 [i1, a] [i2, b]) (ha : a ≠ i1) (hb : b ≠ i2) :
    Turn P w K (.Tuple elts kk tpos) (ItzB u t K a b) [z, TI, TO, i1, i2] z (fun i h => IsZip h z TI TO .none ∧ IsTupOf2 h TI (.ref i1) (.ref i2) ∧ (∃ x y, IsTupOf2 h TO x y) ∧ ItB u h i1 a i ∧ ItB t h i2 b i) where
  mem := by simp
  obj := fun i h st c hc => by
    obtain ⟨hz, hTI, ⟨x, y, hTO⟩, h1, h2⟩ := st
    have e' : c = z ∨ c = TI ∨ c = TO ∨ c = i1 ∨ c = i2 := by simpa using hc
    rcases e' with q | q | q | q | q
    · rw [q]; exact ⟨_, hz, fun v q => nomatch q⟩
    · rw [q]; exact ⟨_, hTI, fun v q => nomatch q⟩
    · rw [q]; exact ⟨_, hTO, fun v q => nomatch q⟩
    · rw [q]; exact itB_obj h1
    · rw [q]; exact itB_obj h2
  keep := fun i h h' st k => by
    obtain ⟨hz, hTI, ⟨x, y, hTO⟩, h1, h2⟩ := st
    exact ⟨k z (by simp) _ hz, k TI (by simp) _ hTI, ⟨x, y, k TO (by simp) _ hTO⟩, itB_at h1 fun o q => k i1 (by simp) o q, itB_at h2 fun o q => k i2 (by simp) o q⟩
  item := by
    intro X hP hw hK hc i pins s σ H E I hf st hg
    subst hP hw hK
    obtain ⟨hz, hTI, ⟨x0, y0, hTO⟩, h1, h2⟩ := st
    obtain ⟨xs, ys, x, y, hqx, hqy, hx, hy⟩ := hg
    obtain ⟨its, rv, p, _⟩ := invB I hqx
    obtain ⟨its2, rv2, p2, _⟩ := invB I hqy
    obtain ⟨c, hu, ru⟩ := rv.get hx
    obtain ⟨c2, hu2, ru2⟩ := rv2.get hy
    have hl1 : i < its.toArray.size := by simpa using (List.getElem?_eq_some_iff.mp hu).1
    have hl2 : i < its2.toArray.size := by simpa using (List.getElem?_eq_some_iff.mp hu2).1
    have hzl : z < s.heap.objs.size := Heap.lt_size hz
    refine wpAny_pyNext_zipD2_item S (drawsB (prog := X.prog) (w := X.w) (A := X.A.in1) (show X.A.in1.handled = none from I.ok.hd hc) u i1 a ha its.toArray) (drawsB (show X.A.in1.handled = none from I.ok.hd hc) t i2 b hb its2.toArray) hz hTI hTO ⟨h1, p⟩ ⟨h2, p2⟩ hl1 hl2 fun x1 x2 h' tk hp1 hp2 z' TO' s1' s2' hT hsz hk => ?_
    have e1 : x1 = c := by
      have : its.toArray[i]? = some c := by simpa using hu
      rw [this] at hp1
      exact (Option.some.inj hp1).symm
    have e2 : x2 = c2 := by
      have : its2.toArray[i]? = some c2 := by simpa using hu2
      rw [this] at hp2
      exact (Option.some.inj hp2).symm
    subst e1 e2
    refine ⟨_, rfl, wpAny_letOwnedTupleGo_zip (s := { s with heap := h', toks := tk }) z' fun h'' z'' sb => ?_⟩
    have hT2 : h''.get? s.heap.objs.size = some { cls := .type "tuple", data := .seq #[x1, x2] } := (sb.2 _ (Nat.ne_of_gt hzl)).trans hT
    have new : ObjOk X.prog X.w (upd H s.heap.objs.size (.tup [x, y])) h'' s.heap.objs.size (.tup [x, y]) :=
      ⟨by show 2 ≤ sizeLine; decide, [x1, x2], .cons ru (.cons ru2 .nil), ⟨_, hT2, rfl, _, rfl⟩⟩
    have I1 : Inv X pins σ (upd H s.heap.objs.size (.tup [x, y])) { s with heap := h'', toks := tk } :=
      I.turnedNew (t' := tk) (ch := [z, TI, TO, i1, i2]) (fun c o hb q => (sb.2 c (fun q' => hb (by simp [q']))).trans (hk c o (fun q' => hb (by simp [q'])) (fun q' => hb (by simp [q'])) (fun q' => hb (by simp [q'])) (fun q' => hb (by simp [q'])) q)) hf (Nat.le_refl _) new
    refine ⟨.ref s.heap.objs.size, _, I1, rfl, ⟨_, x, y, rfl, I.hok.fresh (Nat.le_refl _), rfl, fun l hl => by rw [injB I hl hqx]; exact hx, fun l hl => by rw [injB I hl hqy]; exact hy⟩, ⟨z'', ?_, ⟨x1, x2, ?_⟩, ?_, ?_⟩, fun c hcm => ?_⟩
    · exact (sb.2 _ D.TIz).trans (hk _ _ D.TIz D.TITO D.TIi1 D.TIi2 hTI)
    · exact (sb.2 _ D.TOz).trans TO'
    · exact itB_at s1'.1 fun o q => (sb.2 _ D.i1z).trans q
    · exact itB_at s2'.1 fun o q => (sb.2 _ D.i2z).trans q
    · have hlt : c < s.heap.objs.size := by
        have e' : c = z ∨ c = TI ∨ c = TO ∨ c = i1 ∨ c = i2 := by simpa using hcm
        rcases e' with q | q | q | q | q
        · rw [q]; exact hzl
        · rw [q]; exact Heap.lt_size hTI
        · rw [q]; exact Heap.lt_size hTO
        · rw [q]; obtain ⟨_, e1, _⟩ := itB_obj h1; exact Heap.lt_size e1
        · rw [q]; obtain ⟨_, e2, _⟩ := itB_obj h2; exact Heap.lt_size e2
      rw [upd_ne (Nat.ne_of_lt hlt)]
      exact (hf c hcm).1
  done := by
    intro X hP hw hK hc i pins s σ H E I hf st hg
    subst hP hw hK
    obtain ⟨hz, hTI, ⟨x0, y0, hTO⟩, h1, h2⟩ := st
    obtain ⟨xs, ys, hqx, hqy, hle1, hle2, hend⟩ := hg
    obtain ⟨its, rv, p, _⟩ := invB I hqx
    obtain ⟨its2, rv2, p2, _⟩ := invB I hqy
    have l1 : xs.length = its.length := rv.length
    have l2 : ys.length = its2.length := rv2.length
    exact wpAny_pyNext_zipD2_end S (drawsB (prog := X.prog) (w := X.w) (A := X.A.in1) (show X.A.in1.handled = none from I.ok.hd hc) u i1 a ha its.toArray) (drawsB (show X.A.in1.handled = none from I.ok.hd hc) t i2 b hb its2.toArray) hz hTI hTO ⟨h1, p⟩ ⟨h2, p2⟩ (by simpa [← l1] using hle1) (by simpa [← l2] using hle2) (by simpa [← l1, ← l2] using hend) fun h' tk hk => ⟨rfl, I.turnedL (t' := tk) (ch := [z, TI, TO, i1, i2]) (fun c o hb q =>
      hk c o (fun q' => hb (by simp [q'])) (fun q' => hb (by simp [q'])) (fun q' => hb (by simp [q'])) (fun q' => hb (by simp [q'])) q) hf⟩
  self := fun A i s Q E st h => wpAny_pyIter_zip st.1 h
def iZipB (s t : Bool) (K : PySem.W.Frag) (ta : TA) : TI := fun σ H R => ta σ H fun vs H1 => ∃ a b xs ys, vs = [.ref a, .ref b] ∧ SqB s K H1 a xs ∧ SqB t K H1 b ys ∧ R (ItzB s t K a b) H1
theorem pi_zipB (u t : Bool) {X : Cx} {e e2 : Expr} {ta : TA} {p pos tpos : Pos} {elts : List Expr} {kk : Nat} (hg : Gl X "zip") (hm : X.mg "zip" = none) (ha : PA X [e, e2] ta)
    (hs : starEach [e, e2] X.env = (false, eval e X.env) :: starEach [e2] X.env := by rfl) (hpl : (backTo pos (starEach [e2] X.env)).any (·.1) = false := by rfl) :
    PI X (.Tuple elts kk tpos) (.Call (.Name "zip" p) [e, e2] [] pos) (iZipB u t X.K ta) := by
  refine ⟨fun pins s σ H R I h => ?_⟩
  refine Call_ (ld_blt I hg hm PyProof.Rows.boot_zip (PyProof.Rows.callWith_type1 (thn (ha.run pos pins s σ H _ I h) fun us s1 ⟨vs, H1, I1, r1, q1⟩ => ?_) hs hpl))
  obtain ⟨a, b, xs, ys, ex, hqx, hqy, q⟩ := q1
  subst ex
  cases r1 with
  | cons r rr =>
    cases rr with
    | cons r' rr =>
      cases rr
      cases r
      cases r'
      have fresh5 : ∀ c, c ∈ [s1.heap.objs.size + 4, s1.heap.objs.size + 2, s1.heap.objs.size + 3, s1.heap.objs.size, s1.heap.objs.size + 1] → FpOk X pins H1 c := fun c hcm => by
        have e' : c = s1.heap.objs.size + 4 ∨ c = s1.heap.objs.size + 2 ∨ c = s1.heap.objs.size + 3 ∨ c = s1.heap.objs.size ∨ c = s1.heap.objs.size + 1 := by simpa using hcm
        have hle : s1.heap.objs.size ≤ c := by
          rcases e' with z | z | z | z | z
          · rw [z]; exact Nat.le_add_right _ _
          · rw [z]; exact Nat.le_add_right _ _
          · rw [z]; exact Nat.le_add_right _ _
          · rw [z]; exact Nat.le_refl _
          · rw [z]; exact Nat.le_add_right _ _
        exact I1.fpOk hle (I1.hok.fresh hle)
      obtain ⟨its, rv, p1, lt1⟩ := invB I1 hqx
      obtain ⟨its2, rv2, p2, lt2⟩ := invB I1 hqy
      refine zip_begins2 (beginsB u a its.toArray) (beginsB t b its2.toArray) p1 p2 fun h' hz hTI hTO h1 h2 hsz hk => wpAny_pyIter_zip hz ?_
      have I2 : Inv X pins σ H1 { s1 with heap := h' } := I1.kept (t' := s1.toks) hk
      have S := zip_sep2 (N := s1.heap.objs.size) (fp1 := [a]) (fp2 := [b]) (fun c hc => by rw [List.mem_singleton.mp hc]; exact lt1) (fun c hc => by rw [List.mem_singleton.mp hc]; exact lt2)
      refine ⟨s1.heap.objs.size + 4, [s1.heap.objs.size + 4, s1.heap.objs.size + 2, s1.heap.objs.size + 3, s1.heap.objs.size, s1.heap.objs.size + 1], _, _, H1, rfl, I2, turn_zipB (PySem.W.ktu_apart s1.heap.objs.size a b lt1 lt2) S (Nat.ne_of_lt lt1) (Nat.ne_of_lt (Nat.lt_succ_of_lt lt2)), ⟨hz, hTI, ⟨_, _, hTO⟩, itB_new h1, itB_new h2⟩, fresh5, q⟩
def zipL {α β : Type} (xs : List α) (ys : List β) : List (α × β) := xs.zip ys
def zipM {α β : Type} (a : Res (List α)) (b : Res (List β)) : Res (List (α × β)) := a.bind fun x => b.bind fun y => .ok (zipL x y)
@[simp] theorem zipM_ok {α β : Type} (x : List α) (y : List β) : zipM (.ok x) (.ok y) = .ok (zipL x y) := rfl
section
variable {α β : Type} {K : PySem.W.Frag} {fm : Fm} {σ : L2.St} {G : Hp} {O : Own} {ta tb : TE} {R : Rp α} {S : Rp β}
theorem itzB_ok {s t : Bool} {a b : Addr} {vs ws : List V} {xs : List α} {ys : List β} (h : SqB s K G a vs) (h' : SqB t K G b ws) (r : RLs R K G vs xs) (r' : RLs S K G ws ys) : ItOk K G [] (rP2 R S) (ItzB s t K a b) (zipL xs ys) where
  go := fun i G1 H e e' _ hi => by
    have hi : i < min xs.length ys.length := by simpa [zipL] using hi
    obtain ⟨x, hx⟩ := paired_lt r (show i < xs.length by omega)
    obtain ⟨y, hy⟩ := paired_lt r' (show i < ys.length by omega)
    exact ⟨vs, ws, x, y, same_b (e.trans e') h, same_b (e.trans e') h', hx, hy⟩
  stop := fun G1 H e e' _ => by
    have hl : (zipL xs ys).length = min xs.length ys.length := by simp [zipL]
    have l1 := Paired.length r
    have l2 := Paired.length r'
    rw [hl]
    exact ⟨vs, ws, same_b (e.trans e') h, same_b (e.trans e') h', by omega, by omega, by omega⟩
  yld := fun i G1 H v H' e e' _ hi y => by
    obtain ⟨T, x, y, ev, hT, eH, f1, f2⟩ := y
    subst ev eH
    obtain ⟨x', hx, rx⟩ := paired_get r (f1 vs (same_b (e.trans e') h))
    obtain ⟨y', hy, ry⟩ := paired_get r' (f2 ws (same_b (e.trans e') h'))
    have hz : (zipL xs ys)[i]? = some (x', y') := by
      unfold zipL
      rw [List.getElem?_zip_eq_some]
      exact ⟨hx, hy⟩
    refine ⟨(x', y'), _, hz, Stp.new e' hT, T, _, rfl, .inl (.inl upd_same), x, _, rfl, ?_, y, rfl, ?_⟩
    · exact R.mono (e.trans (same_new (same_back e' hT))) rx
    · exact S.mono (e.trans (same_new (same_back e' hT))) ry
/-- a value that is a sequence of that kind -/
def Sk (t : Bool) (K : PySem.W.Frag) (C : Rp (List α)) (R : Rp α) : Prop := ∀ G v xs, C.r K G v xs → ∃ p vs, v = .ref p ∧ SqB t K G p vs ∧ RLs R K G vs xs
theorem sk_T : Sk true K (rT R) R := fun G v xs ⟨p, vs, a, b, c⟩ => ⟨p, vs, a, b, c⟩
theorem sk_L : Sk false K (rL R) R := fun G v xs ⟨p, vs, a, b, c⟩ => ⟨p, vs, a, b, c⟩
theorem sk_K : Sk false K (rK R) R := fun G v xs h => sk_L _ _ _ (rK_rL h)
theorem i_zipB {s t : Bool} {C : Rp (List α)} {C' : Rp (List β)} {m : Res (List α)} {n : Res (List β)} (c : Sk s K C R) (c' : Sk t K C' S) (ha : EvE K fm ta σ G O C m) (hb : EvE K fm tb σ G O C' n) : EvI K fm (iZipB s t K (tCons ta (tCons tb tNil))) σ G O [] (rP2 R S) (zipM m n) := fun G1 H1 e k Q q =>
  ha G1 H1 e k _ (Res.wp_mono (Res.wp_bind q) (fun xs q v G2 H2 s2 r => hb G2 H2 (e.trans s2.gg) (k.stp s2) _ (Res.wp_mono (Res.wp_bind q) (fun ys q w G3 H3 s3 r' => by
    obtain ⟨p, vs, ev, hq, rs⟩ := c _ _ _ (C.mono s3.gg r)
    obtain ⟨p', ws, ew, hq', rs'⟩ := c' _ _ _ r'
    subst ev ew
    exact ⟨p, p', vs, ws, rfl, same_b s3.gh hq, same_b s3.gh hq', q _ G3 H3 (s2.trans s3) (itzB_ok hq hq' rs rs')⟩) fun _ _ z => z)) fun _ _ z => z)
end
end Mw

namespace Mw
open PySem PySem.Spec PyProof.Rows L2
section
variable {α β γ δ ρ : Type} {K : PySem.W.Frag} {fm : Fm} {σ : L2.St} {G G' H H' : Hp} {O : Own} {te ta tb : TE} {R : Rp α} {m : Res α} {D : Ends} {tr : TS} {Q : ρ → Prop}
/-! ### xs[::-1] -/
def revM {α : Type} (m : Res (List α)) : Res (List α) := m.bind fun xs => .ok xs.reverse
@[simp] theorem revM_ok {α : Type} (xs : List α) : revM (.ok xs) = .ok xs.reverse := rfl
theorem n_rev {m : Res (List α)} (h : EvE K fm te σ G O (rL R) m) : EvN K fm (tRevL K te) σ G O R (revM m) := fun G1 H1 e k Q q =>
  h G1 H1 e k _ (Res.wp_mono (Res.wp_bind q) (fun xs q v G2 H2 s ⟨p, vs, ev, hq, r⟩ =>
    ⟨p, vs, ev, same_l s.gh hq, fun p' hp => q p' _ G2 _ (s.trans (Stp.grow s.gh (same_new hp))) (same_back s.hh hp) (same_back s.gh hp) upd_same (paired_rev r)⟩) fun _ _ z => z)
/-! ### t[lo:hi], t + u of tuples -/
theorem e_sliceT {tl th : TO} {m : Res (List α)} {lo hi : Res (Option Int)} (h : EvE K fm te σ G O (rT R) m) (h1 : EvO fm tl σ G O lo) (h2 : EvO fm th σ G O hi) : EvE K fm (tSl (rSlA K) te tl th) σ G O (rT R) (sliceM m lo hi) := fun G1 H1 e k Q q =>
  h G1 H1 e k _ (Res.wp_mono (Res.wp_bind q) (fun xs q v G2 H2 s r =>
    h1 G2 H2 (e.trans s.gg) (k.stp s) _ (Res.wp_mono (Res.wp_bind q) (fun l q G3 H3 s' =>
      h2 G3 H3 ((e.trans s.gg).trans s'.gg) ((k.stp s).stp s') _ (Res.wp_mono (Res.wp_bind q) (fun hh q G4 H4 s'' => by
        obtain ⟨p, vs, ev, hq, rs⟩ := r
        have ss := (s.trans s').trans s''
        have rs' := rs.mono (s'.gg.trans s''.gg)
        have hq' := same_t (s'.gg.trans s''.gg) hq
        refine ⟨p, vs, ev, same_t ss.gh hq', fun hw => q _ G4 H4 ss ⟨p, _, rfl, hq', ?_⟩, fun _ p' hp => q _ _ _ (ss.trans (Stp.new ss.gh hp)) ⟨p', _, rfl, .inl (.inl upd_same), RLs.mono (same_new (same_back ss.gh hp)) (paired_cut rs' _ _)⟩⟩
        have el : cutL xs l hh = xs := by
          unfold cutL
          rw [← Paired.length rs, hw.1, hw.2, List.drop_zero, Nat.sub_zero, Paired.length rs, List.take_length]
        rw [el]
        exact rs') fun _ _ z => z)) fun _ _ z => z)) fun _ _ z => z)
theorem e_catT {m n : Res (List α)} (ha : EvE K fm ta σ G O (rT R) m) (hb : EvE K fm tb σ G O (rT R) n) : EvE K fm (tOp (rCatA K) ta tb) σ G O (rT R) (catM m n) := fun G1 H1 e k Q q =>
  ha G1 H1 e k _ (Res.wp_mono (Res.wp_bind q) (fun x q u G2 H2 s ru =>
    hb G2 H2 (e.trans s.gg) (k.stp s) _ (Res.wp_mono (Res.wp_bind q) (fun y q v G3 H3 s' rv => by
      obtain ⟨p, vs, e1, h1, r1⟩ := ru
      obtain ⟨p', vs', e2, h2, r2⟩ := rv
      by_cases hl : x.length + y.length ≤ lim
      · rw [catF, if_pos hl] at q
        have ss := s.trans s'
        have h1' := same_t s'.gg h1
        have r1' := r1.mono s'.gg
        refine ⟨p, p', vs, vs', e1, e2, same_t ss.gh h1', same_t s'.gh h2, by rw [Paired.length r1, Paired.length r2, ← lim_eq]; exact hl, fun hx => ?_, fun _ hy => ?_, fun _ _ l hl => ?_⟩
        · subst hx
          cases r1
          exact q _ G3 H3 ss ⟨p', vs', rfl, h2, r2⟩
        · subst hy
          cases r2
          rw [List.append_nil] at q
          exact q _ G3 H3 ss ⟨p, vs, rfl, h1', r1'⟩
        · exact q _ _ _ (ss.trans (Stp.new ss.gh hl)) ⟨l, _, rfl, .inl (.inl upd_same), RLs.mono (same_new (same_back ss.gh hl)) (paired_app r1' r2)⟩
      · rw [catF, if_neg hl] at q; exact q.elim) fun _ _ z => z)) fun _ _ z => z)
/-! ### xs.insert(i, e) -/
def insF {α : Type} (xs : List α) (i : Int) (y : α) : Res (List α) := if xs.length < lim ∧ 0 ≤ i ∧ i < 2 ^ 62 then .ok (xs.take i.toNat ++ [y] ++ xs.drop i.toNat) else .stuck
def insM {α ρ : Type} (xs : List α) (n : Res Int) (m : Res α) (mk : List α → Res ρ) : Res ρ := n.bind fun i => m.bind fun y => (insF xs i y).bind mk
abbrev rInsert : V → List V → Hp → VK → Prop := fun x vs H Q => ∃ (l : Addr) (xs : List V) (i : Int) (y : V), x = .ref l ∧ vs = [.int i, y] ∧ H l = some (.lst xs) ∧ xs.length < sizeLine ∧ 0 ≤ i ∧ i < 2 ^ 63 ∧ Q .non (upd H l (.lst (xs.take i.toNat ++ [y] ++ xs.drop i.toNat)))
theorem w_ins {i : Nat} (j : Nat) {l : Addr} {vs : List V} {xs : List α} {m : Res α} {n : Res Int} {mk : List α → Res ρ} (hx : σ[i]? = some (some (.ref l))) (hj : O[j]? = some (l, .lst vs)) (hr : RLs R K G vs xs) (hi : EvE K fm ta σ G O zI n) (he : EvE K fm te σ G O R m) (hs : Hs fm G O H)
    (hm : Wp (insM xs n m mk) Q fm.xw)
    (k : ∀ ys ws G' H', Same G G' → Hs fm G' (O.set j (l, .lst ws)) H' → RLs R K G' ws ys → Wp (mk ys) Q fm.xw → tr D σ H') : tSeq (tDrop (tBM K "list" rInsert (tVar i) (tCons ta (tCons te tNil)))) tr D σ H :=
  ⟨_, hx, .inl ⟨rfl, vs, SqL.of (hs.at j hj).1⟩, hi G H (Same.refl _) hs.kn _ (Res.wp_mono (Res.wp_bind hm.out) (fun z q v G2 H2 s r => he G2 H2 s.gg (hs.stp s).kn _ (Res.wp_mono (Res.wp_bind q) (fun y q v' G3 H3 s' r' => by
    have ss := s.trans s'
    cases (show v = .int z from r)
    by_cases hl : xs.length < lim ∧ 0 ≤ z ∧ z < 2 ^ 62
    · rw [insF, if_pos hl] at q
      refine ⟨l, vs, z, v', rfl, rfl, ss.hh _ _ (hs.at j hj).1, by rw [Paired.length hr, ← lim_eq]; exact hl.1, hl.2.1, Int.lt_trans hl.2.2 (by decide), ?_⟩
      have hr' := hr.mono ss.gg
      exact k _ _ G3 _ ss.gg ((hs.stp ss).set j hj) (paired_app (paired_app (paired_take _ hr') (.cons r' .nil)) (paired_drop _ hr')) (.mk q)
    · rw [insF, if_neg hl] at q; exact q.elim) fun _ _ z => z)) fun _ _ z => z)⟩
/-! ### list(range(..)) -/
def rgOk (a b : Int) : Bool := inR a && inR b && decide ((b - a).toNat ≤ lim)
def lrg1M (a : Res Int) : Res (List Int) := a.bind fun j => if rgOk 0 j = true then .ok (rgL 0 j.toNat) else .stuck
def lrg2M (a b : Res Int) : Res (List Int) := a.bind fun i => b.bind fun j => if rgOk i j = true then .ok (rgL i (j - i).toNat) else .stuck
theorem paired_rg (i : Int) (n : Nat) : RLs zI K G ((List.range n).map fun k => V.int (i + (k : Nat))) (rgL i n) := by
  unfold rgL
  have : (List.range n).map (fun k => V.int (i + (k : Nat))) = ((List.range n).map fun k => i + ((k : Nat) : Int)).map V.int := by rw [List.map_map]; rfl
  rw [this]
  exact paired_map V.int (fun _ => rfl) _
theorem rgOk_ok {a b : Int} (h : rgOk a b = true) : RgOk a b := by
  simp only [rgOk, inR, Bool.and_eq_true, decide_eq_true_eq] at h
  obtain ⟨⟨⟨h1, h2⟩, h3, h4⟩, h5⟩ := h
  exact ⟨h1, h2, h3, h4, by rw [lim] at h5; omega⟩
theorem n_lrg1 {a : Res Int} (h : EvE K fm te σ G O zI a) : EvN K fm (tLstRg (tRg1 te)) σ G O zI (lrg1M a) := fun G1 H1 e k Q q =>
  h G1 H1 e k _ (Res.wp_mono (Res.wp_bind q) (fun j q v G2 H2 s r => by
    cases (show v = .int j from r)
    cases hj : rgOk 0 j with
    | false => rw [hj] at q; exact q.elim
    | true =>
      rw [hj, if_pos rfl] at q
      refine ⟨j, rfl, rgOk_ok hj, fun p hp => q p _ G2 _ (s.trans (Stp.grow s.gh (same_new hp))) (same_back s.hh hp) (same_back s.gh hp) upd_same ?_⟩
      have := paired_rg (K := K) (G := G2) 0 (j - 0).toNat
      rw [Int.sub_zero] at this
      unfold rgV
      rw [Int.sub_zero]
      exact this) fun _ _ z => z)
theorem n_lrg2 {a b : Res Int} (h : EvE K fm ta σ G O zI a) (h' : EvE K fm tb σ G O zI b) : EvN K fm (tLstRg (tRg2 ta tb)) σ G O zI (lrg2M a b) := fun G1 H1 e k Q q =>
  h G1 H1 e k _ (Res.wp_mono (Res.wp_bind q) (fun i q v G2 H2 s r => h' G2 H2 (e.trans s.gg) (k.stp s) _ (Res.wp_mono (Res.wp_bind q) (fun j q w G3 H3 s' r' => by
    cases (show v = .int i from r)
    cases (show w = .int j from r')
    cases hj : rgOk i j with
    | false => rw [hj] at q; exact q.elim
    | true =>
      rw [hj, if_pos rfl] at q
      have ss := s.trans s'
      exact ⟨i, j, rfl, rfl, rgOk_ok hj, fun p hp => q p _ G3 _ (ss.trans (Stp.grow ss.gh (same_new hp))) (same_back ss.hh hp) (same_back ss.gh hp) upd_same (paired_rg i _)⟩) fun _ _ z => z)) fun _ _ z => z)
/-! ### readings that no list's cell bears -/
def KpL (G G' : Hp) : Prop := ∀ b o, G b = some o → (∀ vs, o ≠ .lst vs) → G' b = some o
def Nl {α : Type} (R : Rp α) : Prop := ∀ K G G' v x, KpL G G' → R.r K G v x → R.r K G' v x
def Nls {α : Type} (S : Rps α) : Prop := ∀ K G G' vs x, KpL G G' → S.r K G vs x → S.r K G' vs x
theorem nl_sc {R : Rp α} (h : Sc R) : Nl R := fun K G G' v x _ r => h _ _ _ _ _ r
theorem nl_I : Nl zI := nl_sc sc_I
theorem nl_B : Nl rB := nl_sc sc_B
theorem nl_N : Nl rN := nl_sc sc_N
theorem nl_S : Nl rS := nl_sc sc_S
theorem nl_O {R : Rp α} (h : Nl R) : Nl (rO R) := fun K G G' v o k q => by
  cases o with
  | none => exact q
  | some a => exact ⟨q.1, h K G G' v a k q.2⟩
theorem nl_sqT {G G' : Hp} {p : Addr} {vs : List V} (k : KpL G G') (h : SqT K G p vs) : SqT K G' p vs := by
  rcases h with (h | ⟨o, h⟩) | h
  · exact .inl (.inl (k _ _ h fun vs q => by cases q))
  · exact .inl (.inr ⟨o, k _ _ h fun vs q => by cases q⟩)
  · exact .inr h
theorem nl_T {R : Rp α} (h : Nl R) : Nl (rT R) := fun K G G' v x k ⟨p, vs, a, b, c⟩ => ⟨p, vs, a, nl_sqT k b, Paired.mapP c fun _ _ z => h _ _ _ _ _ k z⟩
theorem nl_P {S : Rps α} (h : Nls S) : Nl (rP S) := fun K G G' v x k ⟨p, vs, a, b, c⟩ => ⟨p, vs, a, nl_sqT k b, h _ _ _ _ _ k c⟩
theorem nls1 {R : Rp α} (h : Nl R) : Nls (rs1 R) := fun K G G' vs x k ⟨v, a, b⟩ => ⟨v, a, h _ _ _ _ _ k b⟩
theorem nlsC {R : Rp α} {S : Rps β} (h : Nl R) (h' : Nls S) : Nls (rsC R S) := fun K G G' vs x k ⟨v, r, a, b, c⟩ => ⟨v, r, a, h _ _ _ _ _ k b, h' _ _ _ _ _ k c⟩
/-! ### a list that a callee has made, as one's own -/
theorem n_callF {S : Rps β} {f : β → Res (List α)} {R : Rp α} {t : TA} {m : Res β} (sl : Nl R) (h : EvA K fm t σ G O S m) : EvN K fm (tCall (spPF K fm.cl S (fun F => rF F R) f) [] fm.E t) σ G O R (m.bind f) := fun G1 H1 e k Q q =>
  h G1 H1 e k _ (Res.wp_mono (Res.wp_bind q) (fun x q vs G2 H2 s r => ⟨G2, x, s.gh, by rw [List.append_nil]; exact r,
    .mk (Res.wp_mono q (fun y q v G3 H3 s' rv => by
      obtain ⟨p, ws, ev, hp, hg, rs⟩ := rv
      subst ev
      have h1 : H1 p = none := same_back s.hh hp
      refine q p ws (fun b => if b = p then none else G3 b) H3 ⟨s.hh.trans s'.hh, fun b o hb => ?_, fun b o hb => ?_, fun b o hb => ?_⟩ h1 (if_pos rfl) (s'.gh _ _ hg) (Paired.mapP rs fun _ _ z => sl _ _ _ _ _ (fun b o hb hn => by
        have hne : b ≠ p := fun q => by rw [q, hg] at hb; cases hb; exact hn _ rfl
        show (if b = p then none else G3 b) = _
        rw [if_neg hne]
        exact hb) z)
      · have hne : b ≠ p := fun q => by rw [q] at hb; rw [k.gh _ _ hb] at h1; cases h1
        show (if b = p then none else G3 b) = _
        rw [if_neg hne]
        exact s'.gg _ _ (s.gg _ _ hb)
      · by_cases hne : b = p
        · rw [if_pos hne] at hb; cases hb
        · rw [if_neg hne] at hb; exact s'.gh _ _ hb
      · have hne : b ≠ p := fun q => by rw [q] at hb; rw [hb] at h1; cases h1
        show (if b = p then none else G3 b) = _
        rw [if_neg hne]
        exact (s'.old _ _ (s.hh _ _ hb)).trans (s.old _ _ hb)) fun c fs z H' d a b => z H' d ((k.stp s).fr.trans a) b)⟩) fun _ _ z => z)
theorem _root_.Mw.EvN.evF {R : Rp α} {m : Res (List α)} (h : EvN K fm te σ G O R m) : EvE K fm te σ G O (rF fm.F R) m := fun G1 H1 a k Q q =>
  h G1 H1 a k Q (Res.wp_mono q (fun xs f p vs G2 H2 s hp gp hl r =>
    f (.ref p) (upd G2 p (.lst vs)) H2 ⟨s.hh, s.gg.trans (same_new gp), same_updG s.gh hl, fun b o e => by
        rw [upd_ne (ne_of_none e hp)]; exact s.old b o e⟩
      ⟨p, vs, rfl, same_back k.fr hp, upd_same, r.mono (same_new gp)⟩) fun _ _ x => x)
end
end Mw

namespace Mw
open PySem PySem.Spec PyProof.Rows L2
/-! ### expressions that write one object; an exception, too, leaves it in a known state -/
inductive Xr (α : Type) where
  | ok (a : α) | exc (c : Nat) (fs : List (Str × V))
abbrev Xs (α δ : Type) := Res (Xr α × δ)
/-- the exceptional way out -/
def bindK {α δ ρ : Type} (m : Xs α δ) (ex : Nat → List (Str × V) → δ → Res ρ) (k : α → δ → Res ρ) : Res ρ := match m with | .ok x => (match x.1 with | .ok a => k a x.2 | .exc c fs => ex c fs x.2) | _ => .stuck
def exX {α δ : Type} : Nat → List (Str × V) → δ → Xs α δ := fun c fs d => .ok (.exc c fs, d)
abbrev bindX {α β δ : Type} (m : Xs α δ) (k : α → δ → Xs β δ) : Xs β δ := bindK m exX k
theorem bindK_ok {α δ ρ : Type} (a : α) (d : δ) (ex : Nat → List (Str × V) → δ → Res ρ) (k : α → δ → Res ρ) : bindK (.ok (.ok a, d)) ex k = k a d := rfl
theorem bindK_exc {α δ ρ : Type} (c : Nat) (fs) (d : δ) (ex : Nat → List (Str × V) → δ → Res ρ) (k : α → δ → Res ρ) : bindK (.ok (.exc c fs, d)) ex k = ex c fs d := rfl
/-- what doesn't write: its exception leaves the state as it is -/
def pureX {α δ : Type} (m : δ → Res α) : δ → Xs α δ := fun d => match m d with | .ok x => .ok (.ok x, d) | .exc c fs => .ok (.exc c fs, d) | .stuck => .stuck
theorem pureX_ok {α δ : Type} {m : δ → Res α} {d : δ} {x : α} (h : m d = .ok x) : pureX m d = .ok (.ok x, d) := by unfold pureX; rw [h]
theorem pureX_exc {α δ : Type} {m : δ → Res α} {d : δ} {c fs} (h : m d = .exc c fs) : pureX m d = .ok (.exc c fs, d) := by unfold pureX; rw [h]
/-- what never raises -/
def liftX {α δ : Type} (m : Res (α × δ)) : Xs α δ := match m with | .ok x => .ok (.ok x.1, x.2) | _ => .stuck
theorem liftX_ok {α δ : Type} (a : α) (d : δ) : liftX (.ok (a, d)) = .ok (.ok a, d) := rfl
@[reducible] def pairX {α β δ : Type} (f : δ → Xs α δ) (g : δ → Xs β δ) : δ → Xs (α × β) δ := fun d => bindX (f d) fun x d => bindX (g d) fun y d => .ok (.ok (x, y), d)
@[reducible] def callX {α β δ : Type} (f : δ → Xs α δ) (h : δ → α → Xs β δ) : δ → Xs β δ := fun d => bindX (f d) fun x d => h d x
@[reducible] def mapX {α β δ : Type} (f : δ → Xs α δ) (h : α → Res β) : δ → Xs β δ := fun d => bindX (f d) fun x d => pureX (fun _ => h x) d
@[reducible] def map2X {α β γ δ : Type} (f : δ → Xs α δ) (g : δ → Xs β δ) (h : α → β → Res γ) : δ → Xs γ δ := fun d => bindX (f d) fun x d => bindX (g d) fun y d => pureX (fun _ => h x y) d
@[reducible] def readX {α β δ : Type} (f : δ → Xs α δ) (h : δ → α → Res β) : δ → Xs β δ := fun d => bindX (f d) fun x d => pureX (fun _ => h d x) d
@[reducible] def iteX {α δ : Type} (c : δ → Xs Bool δ) (a b : δ → Xs α δ) : δ → Xs α δ := fun d => bindX (c d) fun x d => if x = true then a d else b d
@[reducible] def andX {δ : Type} (c a : δ → Xs Bool δ) : δ → Xs Bool δ := fun d => bindX (c d) fun x d => if x = true then a d else .ok (.ok false, d)
@[reducible] def orX {δ : Type} (c a : δ → Xs Bool δ) : δ → Xs Bool δ := fun d => bindX (c d) fun x d => if x = true then .ok (.ok true, d) else a d
/-- the two ways out of what writes -/
def wpX {α δ : Type} (m : Xs α δ) (Q : α → δ → Prop) (E : Nat → List (Str × V) → δ → Prop) : Prop := m.wp (fun x => match x.1 with | .ok a => Q a x.2 | .exc c fs => E c fs x.2) fun _ _ => False
theorem wpX_bind {α β δ : Type} {m : Xs α δ} {k : α → δ → Xs β δ} {Q E} (h : wpX (bindX m k) Q E) : wpX m (fun a d => wpX (k a d) Q E) E := by
  unfold wpX bindX bindK at *
  cases m with
  | ok x =>
    obtain ⟨x, d⟩ := x
    cases x with
    | ok a => exact h
    | exc c fs => exact h
  | exc c fs => exact h.elim
  | stuck => exact h.elim
theorem wpX_mono {α δ : Type} {m : Xs α δ} {Q Q' : α → δ → Prop} {E E' : Nat → List (Str × V) → δ → Prop} (h : wpX m Q E) (hq : ∀ a d, Q a d → Q' a d) (he : ∀ c fs d, E c fs d → E' c fs d) : wpX m Q' E' := by
  unfold wpX at *
  cases m with
  | ok x =>
    obtain ⟨x, d⟩ := x
    cases x with
    | ok a => exact hq _ _ h
    | exc c fs => exact he _ _ _ h
  | exc c fs => exact h
  | stuck => exact h
theorem wpX_pureC {α δ : Type} {m : Res α} {d : δ} {Q E} (h : wpX (pureX (fun _ => m) d) Q E) : m.wp (fun a => Q a d) (fun c fs => E c fs d) := by
  unfold wpX pureX at h
  cases e : m with
  | ok x => rw [e] at h; exact h
  | exc c fs => rw [e] at h; exact h
  | stuck => rw [e] at h; exact h
theorem wpX_pure {α δ : Type} {m : δ → Res α} {d : δ} {Q E} (h : wpX (pureX m d) Q E) : (m d).wp (fun a => Q a d) (fun c fs => E c fs d) := by
  unfold wpX pureX at h
  cases e : m d with
  | ok x => rw [e] at h; exact h
  | exc c fs => rw [e] at h; exact h
  | stuck => rw [e] at h; exact h
theorem wpX_K {α δ ρ : Type} {m : Xs α δ} {ex : Nat → List (Str × V) → δ → Res ρ} {k : α → δ → Res ρ} {Q E} (h : Wp (bindK m ex k) Q E) : wpX m (fun a d => Wp (k a d) Q E) (fun c fs d => Wp (ex c fs d) Q E) := by
  have h := h.out
  unfold wpX
  unfold bindK at h
  cases m with
  | ok x =>
    obtain ⟨x, d⟩ := x
    cases x with
    | ok a => exact .mk h
    | exc c fs => exact .mk h
  | exc c fs => exact h.elim
  | stuck => exact h.elim
@[irreducible] def WpX {α δ : Type} (m : Xs α δ) (Q : α → δ → Prop) (E : Nat → List (Str × V) → δ → Prop) : Prop := wpX m Q E
theorem WpX.out {α δ : Type} {m : Xs α δ} {Q : α → δ → Prop} {E} (h : WpX m Q E) : wpX m Q E := by unfold WpX at h; exact h
theorem WpX.mk {α δ : Type} {m : Xs α δ} {Q : α → δ → Prop} {E} (h : wpX m Q E) : WpX m Q E := by unfold WpX; exact h
/-- the way out by an exception -/
def exitX {δ : Type} (fm : Fm) (Ob : δ → V → Hp → Own → Prop) (v0 : V) (c : Nat) (fs : List (Str × V)) (d : δ) : Prop := ∀ G O H dd, Hs fm G O H → Ob d v0 G O → XdOk fs dd H → fm.E (.ref (fm.cl c)) dd H
/-- what a def that writes an object promises, its exceptions too -/
def spX {α β δ : Type} (K : PySem.W.Frag) (cl : Nat → Addr) (Ob : δ → V → Hp → Own → Prop) (S : V → Rps α) (R : Rp β) (f : δ → α → Xs β δ) : Sp := fun vs H Q E => ∃ F G O d v0 a, Hs ⟨F, G, E, cl⟩ G O H ∧ Ob d v0 G O ∧ (S v0).r K G vs a ∧
  WpX (f d a) (fun y d' => ∀ v G' O' H', Hs ⟨F, G, E, cl⟩ G' O' H' → Ob d' v0 G' O' → R.r K G' v y → Q v H') (exitX ⟨F, G, E, cl⟩ Ob v0)
theorem spX_ofN {α β δ : Type} {K : PySem.W.Frag} {cl : Nat → Addr} {Ob : δ → V → Hp → Own → Prop} {S : V → Rps α} {R : Rp β} {f : δ → α → Res (β × δ)} (vs : List V) (H : Hp) (Q : VK) (E : XK)
    (h : spX K cl Ob S R (fun s a => liftX (f s a)) vs H Q E) : spN K cl Ob S R f vs H Q E := by
  obtain ⟨F, G, O, d, v0, a, hs, ob, hS, hm⟩ := h
  refine ⟨F, G, O, d, v0, a, hs, ob, hS, .mk ?_⟩
  have hm := hm.out
  dsimp only at hm
  unfold wpX liftX at hm
  cases e : f d a with
  | ok x => rw [e] at hm; exact hm
  | exc c fs => rw [e] at hm; exact hm.elim
  | stuck => rw [e] at hm; exact hm.elim
theorem spX_ofM {α β δ : Type} {K : PySem.W.Frag} {cl : Nat → Addr} {Ob : δ → V → Hp → Own → Prop} {S : Rps α} {R : Rp β} {f : δ → α → Res (β × δ)} (vs : List V) (H : Hp) (Q : VK) (E : XK)
    (h : spX K cl Ob (fun v0 => rsV v0 S) R (fun s a => liftX (f s a)) vs H Q E) : spM K cl Ob S R f vs H Q E := spN_of vs H Q E (spX_ofN vs H Q E h)
/-- what the body of such a def is to reach -/
def QX {β δ : Type} (K : PySem.W.Frag) (fm : Fm) (Ob : δ → V → Hp → Own → Prop) (v0 : V) (R : Rp β) (Q : VK) : Xr β × δ → Prop := fun x => match x.1 with
  | .ok y => ∀ v G' O' H', Hs fm G' O' H' → Ob x.2 v0 G' O' → R.r K G' v y → Q v H'
  | .exc c fs => exitX fm Ob v0 c fs x.2
theorem QX.start {β δ : Type} {K : PySem.W.Frag} {fm : Fm} {Ob : δ → V → Hp → Own → Prop} {v0 : V} {R : Rp β} {Q : VK} {m : Xs β δ} (h : WpX m (fun y d' => ∀ v G' O' H', Hs fm G' O' H' → Ob d' v0 G' O' → R.r K G' v y → Q v H') (exitX fm Ob v0)) : Wp m (QX K fm Ob v0 R Q) fm.xw := .mk (by
  have h := h.out
  unfold wpX at h
  cases m with
  | ok x =>
    obtain ⟨x, d⟩ := x
    cases x with
    | ok a => exact h
    | exc c fs => exact h
  | exc c fs => exact h.elim
  | stuck => exact h.elim)
section
variable {α β γ δ ε ρ : Type} (K : PySem.W.Frag) (fm : Fm) (σ : L2.St) (G : Hp) (La Lb : Own) (Ob : δ → V → Hp → Own → Prop) (v0 : V)
def ExK (G1 : Hp) (c : Nat) (fs : List (Str × V)) (d' : δ) : Prop := ∀ G2 O2 H2 dd, Same G1 G2 → Hs fm G2 (La ++ (O2 ++ Lb)) H2 → Ob d' v0 G2 O2 → XdOk fs dd H2 → fm.E (.ref (fm.cl c)) dd H2
def EvX (te : TE) (R : Rp α) (f : δ → Xs α δ) : Prop := ∀ d O G1 H1, Same G G1 → Hs fm G1 (La ++ (O ++ Lb)) H1 → Ob d v0 G1 O → ∀ Q : VK,
  wpX (f d) (fun x d' => ∀ v G2 O2 H2, Same G1 G2 → Hs fm G2 (La ++ (O2 ++ Lb)) H2 → Ob d' v0 G2 O2 → R.r K G2 v x → Q v H2) (ExK fm La Lb Ob v0 G1) → te σ H1 Q
def EvXA (ta : TA) (S : Rps α) (f : δ → Xs α δ) : Prop := ∀ d O G1 H1, Same G G1 → Hs fm G1 (La ++ (O ++ Lb)) H1 → Ob d v0 G1 O → ∀ Q : List V → Hp → Prop,
  wpX (f d) (fun x d' => ∀ vs G2 O2 H2, Same G1 G2 → Hs fm G2 (La ++ (O2 ++ Lb)) H2 → Ob d' v0 G2 O2 → S.r K G2 vs x → Q vs H2) (ExK fm La Lb Ob v0 G1) → ta σ H1 Q
def EvXT (tt : TT) (f : δ → Xs Bool δ) : Prop := ∀ d O G1 H1, Same G G1 → Hs fm G1 (La ++ (O ++ Lb)) H1 → Ob d v0 G1 O → ∀ Q : Bool → Hp → Prop,
  wpX (f d) (fun x d' => ∀ G2 O2 H2, Same G1 G2 → Hs fm G2 (La ++ (O2 ++ Lb)) H2 → Ob d' v0 G2 O2 → Q x H2) (ExK fm La Lb Ob v0 G1) → tt σ H1 Q
end
section
variable {α β γ δ ε ρ α' : Type} {K : PySem.W.Frag} {fm : Fm} {σ : L2.St} {G G' H H' : Hp} {O O' La Lb : Own} {Ob : δ → V → Hp → Own → Prop} {v0 : V} {d : δ}
variable {te ta tb tc : TE} {R : Rp α} {S : Rp β} {T : Rp γ} {m : Res α} {n : Res β} {f : δ → Xs α δ} {g : δ → Xs β δ}
variable {D : Ends} {tr tt tu tw : TS} {Q : ρ → Prop}
theorem ExK.mono {G1 G2 : Hp} (e : Same G1 G2) {c fs} {d' : δ} (h : ExK fm La Lb Ob v0 G1 c fs d') : ExK fm La Lb Ob v0 G2 c fs d' := fun G3 O3 H3 dd e3 => h G3 O3 H3 dd (e.trans e3)
/-- the frame of a pure step is the whole heap -/
abbrev fmH (fm : Fm) (F : Hp) : Fm := ⟨F, fm.G0, fm.E, fm.cl⟩
theorem y_pure {f : δ → Res α} (obm : Obm Ob) (h : ∀ F d O G', Same G G' → Ob d v0 G' O → EvE K (fmH fm F) te σ G' (La ++ (O ++ Lb)) R (f d)) : EvX K fm σ G La Lb Ob v0 te R (pureX f) := fun d O G1 H1 e hs ob Q q =>
  h H1 d O G1 e ob G1 H1 (Same.refl _) ⟨Same.refl _, hs.gh, fun p hp => (hs.own p hp).1⟩ Q (Res.wp_mono (wpX_pure q) (fun x q v G2 H2 s r => q v G2 O H2 s.gg (hs.stp s) (obm _ _ _ _ _ s.gg ob) r) fun c fs z H' dd a b => z G1 O H' dd (Same.refl _) (hs.stp (Stp.grow hs.gh a)) ob b)
theorem y_pure0 (obm : Obm Ob) (h : ∀ F O, EvE K (fmH fm F) te σ G (La ++ (O ++ Lb)) R m) : EvX K fm σ G La Lb Ob v0 te R (pureX fun _ => m) := y_pure obm fun F d O G' e _ => (h F O).mono e
theorem yt_pure {tt : TT} {f : δ → Res Bool} (obm : Obm Ob) (h : ∀ F d O G', Same G G' → Ob d v0 G' O → EvT (fmH fm F) tt σ G' (La ++ (O ++ Lb)) (f d)) : EvXT fm σ G La Lb Ob v0 tt (pureX f) := fun d O G1 H1 e hs ob Q q =>
  h H1 d O G1 e ob G1 H1 (Same.refl _) ⟨Same.refl _, hs.gh, fun p hp => (hs.own p hp).1⟩ Q (Res.wp_mono (wpX_pure q) (fun x q G2 H2 s => q G2 O H2 s.gg (hs.stp s) (obm _ _ _ _ _ s.gg ob)) fun c fs z H' dd a b => z G1 O H' dd (Same.refl _) (hs.stp (Stp.grow hs.gh a)) ob b)
theorem yt_pure0 {tt : TT} {m : Res Bool} (obm : Obm Ob) (h : ∀ F O, EvT (fmH fm F) tt σ G (La ++ (O ++ Lb)) m) : EvXT fm σ G La Lb Ob v0 tt (pureX fun _ => m) := yt_pure obm fun F d O G' e _ => (h F O).mono e
/-! arguments -/
theorem yA_nil : EvXA K fm σ G La Lb Ob v0 tNil rs0 (pureX fun _ => .ok ()) := fun d O G1 H1 e hs ob Q q => q [] G1 O H1 (Same.refl _) hs ob rfl
theorem yA_one (h : EvX K fm σ G La Lb Ob v0 te R f) : EvXA K fm σ G La Lb Ob v0 (tCons te tNil) (rs1 R) f := fun d O G1 H1 e hs ob Q q =>
  h d O G1 H1 e hs ob _ (wpX_mono q (fun x d' q v G2 O2 H2 e2 hs2 ob2 r => q [v] G2 O2 H2 e2 hs2 ob2 ⟨v, rfl, r⟩) fun _ _ _ z => z)
theorem yA_cons {S : Rps β} {t : TA} (h : EvX K fm σ G La Lb Ob v0 te R f) (hr : EvXA K fm σ G La Lb Ob v0 t S g) : EvXA K fm σ G La Lb Ob v0 (tCons te t) (rsC R S) (pairX f g) := fun d O G1 H1 e hs ob Q q =>
  h d O G1 H1 e hs ob _ (wpX_mono (wpX_bind q) (fun x d' q v G2 O2 H2 e2 hs2 ob2 r =>
    hr d' O2 G2 H2 (e.trans e2) hs2 ob2 _ (wpX_mono (wpX_bind q) (fun y d'' q vs G3 O3 H3 e3 hs3 ob3 r' => q (v :: vs) G3 O3 H3 (e2.trans e3) hs3 ob3 ⟨v, vs, rfl, R.mono e3 r, r'⟩) fun _ _ _ z => ExK.mono e2 z)) fun _ _ _ z => z)
theorem yA_obj {S : Rps β} {t : TA} {i : Nat} (hv : σ[i]? = some (some v0)) (h : EvXA K fm σ G La Lb Ob v0 t S g) : EvXA K fm σ G La Lb Ob v0 (tCons (tVar i) t) (rsV v0 S) g := fun d O G1 H1 e hs ob Q q =>
  ⟨v0, hv, h d O G1 H1 e hs ob _ (wpX_mono q (fun y d' q vs G3 O3 H3 e3 hs3 ob3 r' => q (v0 :: vs) G3 O3 H3 e3 hs3 ob3 ⟨vs, rfl, r'⟩) fun _ _ _ z => z)⟩
/-! calls -/
theorem y_call {S : V → Rps β} {t : TA} {ma : δ → Xs β δ} {h : δ → β → Xs α δ} (ha : EvXA K fm σ G La Lb Ob v0 t (S v0) ma) : EvX K fm σ G La Lb Ob v0 (tCall (spX K fm.cl Ob S R h) [] fm.E t) R (callX ma h) := fun d O G1 H1 e hs ob Q q =>
  ha d O G1 H1 e hs ob _ (wpX_mono (wpX_bind q) (fun x d' q vs G2 O2 H2 e2 hs2 ob2 r =>
    ⟨without O2 H2, G2, O2, d', v0, x, hs2.sub, ob2, by rw [List.append_nil]; exact r, .mk (wpX_mono q (fun y d'' q v G3 O3 H3 hs3 ob3 r3 => q v G3 O3 H3 (e2.trans hs3.g0) (hs2.back2 hs3) ob3 r3) fun c fs d'' z G3 O3 H3 dd hs3 ob3 xd => z G3 O3 H3 dd (e2.trans hs3.g0) (hs2.back2 hs3) ob3 xd)⟩) fun _ _ _ z => z)
theorem y_callP {S : Rps β} {t : TA} {ma : δ → Xs β δ} {h : β → Res α} (obm : Obm Ob) (ha : EvXA K fm σ G La Lb Ob v0 t S ma) : EvX K fm σ G La Lb Ob v0 (tCall (spP K fm.cl S R h) [] fm.E t) R (mapX ma h) := fun d O G1 H1 e hs ob Q q =>
  ha d O G1 H1 e hs ob _ (wpX_mono (wpX_bind q) (fun x d' q vs G2 O2 H2 e2 hs2 ob2 r =>
    ⟨G2, x, hs2.gh, by rw [List.append_nil]; exact r, .mk (Res.wp_mono (wpX_pureC q) (fun y q v G3 H3 s r3 => q v G3 O2 H3 (e2.trans s.gg) (hs2.stp s) (obm _ _ _ _ _ s.gg ob2) r3) fun c fs z H' dd a b => z G2 O2 H' dd e2 (hs2.stp (Stp.grow hs2.gh a)) ob2 b)⟩) fun _ _ _ z => z)
theorem y_callR {Sg : Rps β} {Ss : Rps α'} {ins : ε → β → α'} {Ro : Rp ε} {ro : δ → ε} {t : TA} {ma : δ → Xs β δ} {h : α' → Res α} (obm : Obm Ob) (L : Lends K Ob Ro ro) (sc : Sc R) (cv : Conv K v0 Sg Ro Ss ins) (ha : EvXA K fm σ G La Lb Ob v0 t Sg ma) :
    EvX K fm σ G La Lb Ob v0 (tCall (spP K fm.cl Ss R h) [] fm.E t) R (readX ma fun d a => h (ins (ro d) a)) := fun d O G1 H1 e hs ob Q q =>
  ha d O G1 H1 e hs ob _ (wpX_mono (wpX_bind q) (fun x d' q vs G2 O2 H2 e2 hs2 ob2 r => by
    obtain ⟨Gl, e3, e4, rr⟩ := L fm d' v0 G2 O2 _ H2 hs2.kn (fun p hp => List.mem_append_right _ (List.mem_append_left _ hp)) ob2
    exact ⟨Gl, ins (ro d') x, e4, by rw [List.append_nil]; exact cv.go _ _ _ _ (Sg.mono e3 r) rr, .mk (Res.wp_mono (wpX_pureC q) (fun y q v G3 H3 s r3 => q v G2 O2 H3 e2 (hs2.stp (Stp.grow hs2.gh s.hh)) ob2 (sc _ _ _ _ _ r3)) fun c fs z H' dd a b => z G2 O2 H' dd e2 (hs2.stp (Stp.grow hs2.gh a)) ob2 b)⟩) fun _ _ _ z => z)
theorem y_meth {S : Rps β} {t : TA} {i : Nat} {C : Addr} {mt : Str} {ma : δ → Xs β δ} {h : δ → β → Xs α δ} (hC : ObjM C Ob mt) (hv : σ[i]? = some (some v0)) (ha : EvXA K fm σ G La Lb Ob v0 t S ma) :
    EvX K fm σ G La Lb Ob v0 (tMeth C mt (spX K fm.cl Ob (fun v0 => rsV v0 S) R h) [] fm.E (tVar i) t) R (callX ma h) := fun d O G1 H1 e hs ob Q q => by
  obtain ⟨p, dx, fs, e0, hp, hl⟩ := hC _ _ _ _ ob
  refine ⟨v0, hv, p, dx, fs, e0, (hs.kn.own _ (List.mem_append_right _ (List.mem_append_left _ hp))), hl, ?_⟩
  exact ha d O G1 H1 e hs ob _ (wpX_mono (wpX_bind q) (fun x d' q vs G2 O2 H2 e2 hs2 ob2 r =>
    ⟨without O2 H2, G2, O2, d', v0, x, hs2.sub, ob2, by rw [List.append_nil]; exact ⟨vs, rfl, r⟩, .mk (wpX_mono q (fun y d'' q v G3 O3 H3 hs3 ob3 r3 => q v G3 O3 H3 (e2.trans hs3.g0) (hs2.back2 hs3) ob3 r3) fun c fs d'' z G3 O3 H3 dd hs3 ob3 xd => z G3 O3 H3 dd (e2.trans hs3.g0) (hs2.back2 hs3) ob3 xd)⟩) fun _ _ _ z => z)
theorem y_methR {Sg : Rps β} {Ro : Rp ε} {ro : δ → ε} {t : TA} {i : Nat} {C : Addr} {mt : Str} {ma : δ → Xs β δ} {h : ε × β → Res α} (obm : Obm Ob) (hC : ObjM C Ob mt) (L : Lends K Ob Ro ro) (sc : Sc R) (hv : σ[i]? = some (some v0)) (ha : EvXA K fm σ G La Lb Ob v0 t Sg ma) :
    EvX K fm σ G La Lb Ob v0 (tMeth C mt (spP K fm.cl (rsC Ro Sg) R h) [] fm.E (tVar i) t) R (readX ma fun d a => h (ro d, a)) := fun d O G1 H1 e hs ob Q q => by
  obtain ⟨p, dx, fs, e0, hp, hl⟩ := hC _ _ _ _ ob
  refine ⟨v0, hv, p, dx, fs, e0, (hs.kn.own _ (List.mem_append_right _ (List.mem_append_left _ hp))), hl, ?_⟩
  refine ha d O G1 H1 e hs ob _ (wpX_mono (wpX_bind q) (fun x d' q vs G2 O2 H2 e2 hs2 ob2 r => ?_) fun _ _ _ z => z)
  obtain ⟨Gl, e3, e4, rr⟩ := L fm d' v0 G2 O2 _ H2 hs2.kn (fun p hp => List.mem_append_right _ (List.mem_append_left _ hp)) ob2
  exact ⟨Gl, (ro d', x), e4, by rw [List.append_nil]; exact ⟨v0, vs, rfl, rr, Sg.mono e3 r⟩, .mk (Res.wp_mono (wpX_pureC q) (fun y q v G3 H3 s r3 => q v G2 O2 H3 e2 (hs2.stp (Stp.grow hs2.gh s.hh)) ob2 (sc _ _ _ _ _ r3)) fun c fs z H' dd a b => z G2 O2 H' dd e2 (hs2.stp (Stp.grow hs2.gh a)) ob2 b)⟩
/-! operators -/
theorem y_op1 {Dv : V → TE} {h : α → Res γ} (obm : Obm Ob) (ha : EvX K fm σ G La Lb Ob v0 ta R f) (hp : ∀ F v x G' O, Same G G' → R.r K G' v x → EvE K (fmH fm F) (Dv v) σ G' O T (h x)) (hC : ∀ H Q, (ta σ H fun v H1 => Dv v σ H1 Q) → te σ H Q) :
    EvX K fm σ G La Lb Ob v0 te T (mapX f h) := fun d O G1 H1 e hs ob Q q => hC _ _ <|
  ha d O G1 H1 e hs ob _ (wpX_mono (wpX_bind q) (fun x d' q v G2 O2 H2 e2 hs2 ob2 r =>
    hp H2 v x G2 (La ++ (O2 ++ Lb)) (e.trans e2) r G2 H2 (Same.refl _) ⟨Same.refl _, hs2.gh, fun p hp => (hs2.own p hp).1⟩ Q (Res.wp_mono (wpX_pureC q) (fun y q v G3 H3 s r3 => q v G3 O2 H3 (e2.trans s.gg) (hs2.stp s) (obm _ _ _ _ _ s.gg ob2) r3) fun c fs z H' dd a b => z G2 O2 H' dd e2 (hs2.stp (Stp.grow hs2.gh a)) ob2 b)) fun _ _ _ z => z)
theorem y_op2 {Dv : V → V → TE} {h : α → β → Res γ} (obm : Obm Ob) (ha : EvX K fm σ G La Lb Ob v0 ta R f) (hb : EvX K fm σ G La Lb Ob v0 tb S g) (hp : ∀ F v w x y G' O, Same G G' → R.r K G' v x → S.r K G' w y → EvE K (fmH fm F) (Dv v w) σ G' O T (h x y))
    (hC : ∀ H Q, (ta σ H fun v H1 => tb σ H1 fun w H2 => Dv v w σ H2 Q) → te σ H Q) : EvX K fm σ G La Lb Ob v0 te T (map2X f g h) := fun d O G1 H1 e hs ob Q q => hC _ _ <|
  ha d O G1 H1 e hs ob _ (wpX_mono (wpX_bind q) (fun x d' q v G2 O2 H2 e2 hs2 ob2 r =>
    hb d' O2 G2 H2 (e.trans e2) hs2 ob2 _ (wpX_mono (wpX_bind q) (fun y d'' q w G3 O3 H3 e3 hs3 ob3 r' =>
      hp H3 v w x y G3 (La ++ (O3 ++ Lb)) ((e.trans e2).trans e3) (R.mono e3 r) r' G3 H3 (Same.refl _) ⟨Same.refl _, hs3.gh, fun p hp => (hs3.own p hp).1⟩ Q (Res.wp_mono (wpX_pureC q) (fun z q v G4 H4 s r3 => q v G4 O3 H4 ((e2.trans e3).trans s.gg) (hs3.stp s) (obm _ _ _ _ _ s.gg ob3) r3) fun c fs z H' dd a b => z G3 O3 H' dd (e2.trans e3) (hs3.stp (Stp.grow hs3.gh a)) ob3 b)) fun _ _ _ z => ExK.mono e2 z)) fun _ _ _ z => z)
theorem y_ite {c : TT} {mc : δ → Xs Bool δ} {g : δ → Xs α δ} (hc : EvXT fm σ G La Lb Ob v0 c mc) (ha : EvX K fm σ G La Lb Ob v0 ta R f) (hb : EvX K fm σ G La Lb Ob v0 tb R g) : EvX K fm σ G La Lb Ob v0 (tIf c ta tb) R (iteX mc f g) := fun d O G1 H1 e hs ob Q q =>
  hc d O G1 H1 e hs ob _ (wpX_mono (wpX_bind q) (fun b d2 q G2 O2 H2 e2 hs2 ob2 => by
    cases b with
    | true => exact ha d2 O2 G2 H2 (e.trans e2) hs2 ob2 Q (wpX_mono q (fun y d3 q v G3 O3 H3 e3 => q v G3 O3 H3 (e2.trans e3)) fun _ _ _ z => ExK.mono e2 z)
    | false => exact hb d2 O2 G2 H2 (e.trans e2) hs2 ob2 Q (wpX_mono q (fun y d3 q v G3 O3 H3 e3 => q v G3 O3 H3 (e2.trans e3)) fun _ _ _ z => ExK.mono e2 z)) fun _ _ _ z => z)
/-! tests -/
theorem yt_val {f : δ → Xs Bool δ} (h : EvX K fm σ G La Lb Ob v0 te rB f) : EvXT fm σ G La Lb Ob v0 (tB te) f := fun d O G1 H1 e hs ob Q q =>
  h d O G1 H1 e hs ob _ (wpX_mono q (fun x d' q v G2 O2 H2 e2 hs2 ob2 r => ⟨x, r, q G2 O2 H2 e2 hs2 ob2⟩) fun _ _ _ z => z)
theorem yt_test {f : δ → Xs Bool δ} (h : EvX K fm σ G La Lb Ob v0 te rB f) : EvXT fm σ G La Lb Ob v0 (tTest te) f := yt_val h
theorem yt_not {t : TT} {f : δ → Xs Bool δ} (h : EvXT fm σ G La Lb Ob v0 t f) : EvXT fm σ G La Lb Ob v0 (tNot t) (mapX f fun b => .ok (!b)) := fun d O G1 H1 e hs ob Q q =>
  h d O G1 H1 e hs ob _ (wpX_mono (wpX_bind q) (fun x d' q G2 O2 H2 e2 hs2 ob2 => q G2 O2 H2 e2 hs2 ob2) fun _ _ _ z => z)
theorem yt_and {t u : TT} {f g : δ → Xs Bool δ} (h : EvXT fm σ G La Lb Ob v0 t f) (h' : EvXT fm σ G La Lb Ob v0 u g) : EvXT fm σ G La Lb Ob v0 (tAnd t u) (andX f g) := fun d O G1 H1 e hs ob Q q =>
  h d O G1 H1 e hs ob _ (wpX_mono (wpX_bind q) (fun b d2 q G2 O2 H2 e2 hs2 ob2 => by
    cases b with
    | true => exact h' d2 O2 G2 H2 (e.trans e2) hs2 ob2 Q (wpX_mono q (fun y d3 q G3 O3 H3 e3 => q G3 O3 H3 (e2.trans e3)) fun _ _ _ z => ExK.mono e2 z)
    | false => exact q G2 O2 H2 e2 hs2 ob2) fun _ _ _ z => z)
theorem yt_or {t u : TT} {f g : δ → Xs Bool δ} (h : EvXT fm σ G La Lb Ob v0 t f) (h' : EvXT fm σ G La Lb Ob v0 u g) : EvXT fm σ G La Lb Ob v0 (tOr t u) (orX f g) := fun d O G1 H1 e hs ob Q q =>
  h d O G1 H1 e hs ob _ (wpX_mono (wpX_bind q) (fun b d2 q G2 O2 H2 e2 hs2 ob2 => by
    cases b with
    | false => exact h' d2 O2 G2 H2 (e.trans e2) hs2 ob2 Q (wpX_mono q (fun y d3 q G3 O3 H3 e3 => q G3 O3 H3 (e2.trans e3)) fun _ _ _ z => ExK.mono e2 z)
    | true => exact q G2 O2 H2 e2 hs2 ob2) fun _ _ _ z => z)
theorem y_and {f g : δ → Xs Bool δ} (h : EvX K fm σ G La Lb Ob v0 ta rB f) (h' : EvX K fm σ G La Lb Ob v0 tb rB g) : EvX K fm σ G La Lb Ob v0 (tAndV ta tb) rB (andX f g) := fun d O G1 H1 e hs ob Q q =>
  h d O G1 H1 e hs ob _ (wpX_mono (wpX_bind q) (fun b d2 q v G2 O2 H2 e2 hs2 ob2 r => ⟨b, r, by
    cases b with
    | true => exact h' d2 O2 G2 H2 (e.trans e2) hs2 ob2 Q (wpX_mono q (fun y d3 q v G3 O3 H3 e3 => q v G3 O3 H3 (e2.trans e3)) fun _ _ _ z => ExK.mono e2 z)
    | false => exact q _ G2 O2 H2 e2 hs2 ob2 rfl⟩) fun _ _ _ z => z)
theorem y_or {f g : δ → Xs Bool δ} (h : EvX K fm σ G La Lb Ob v0 ta rB f) (h' : EvX K fm σ G La Lb Ob v0 tb rB g) : EvX K fm σ G La Lb Ob v0 (tOrV ta tb) rB (orX f g) := fun d O G1 H1 e hs ob Q q =>
  h d O G1 H1 e hs ob _ (wpX_mono (wpX_bind q) (fun b d2 q v G2 O2 H2 e2 hs2 ob2 r => ⟨b, r, by
    cases b with
    | false => exact h' d2 O2 G2 H2 (e.trans e2) hs2 ob2 Q (wpX_mono q (fun y d3 q v G3 O3 H3 e3 => q v G3 O3 H3 (e2.trans e3)) fun _ _ _ z => ExK.mono e2 z)
    | true => exact q _ G2 O2 H2 e2 hs2 ob2 rfl⟩) fun _ _ _ z => z)
/-! statements; hx: how an exception leaves -/
variable {ex : Nat → List (Str × V) → δ → Res ρ}
abbrev HX (fm : Fm) (La Lb : Own) (Ob : δ → V → Hp → Own → Prop) (v0 : V) (G : Hp) (ex : Nat → List (Str × V) → δ → Res ρ) (Q : ρ → Prop) : Prop := ∀ c fs d', Wp (ex c fs d') Q fm.xw → ExK fm La Lb Ob v0 G c fs d'
theorem w_asgY {g : TG} {Ss : Rps α} {is : List Nat} {mk : α → δ → Res ρ} (tg : Tgt K g R Ss is) (he : EvX K fm σ G La Lb Ob v0 te R f) (hs : Hs fm G (La ++ (O ++ Lb)) H) (ob : Ob d v0 G O) (hx : HX fm La Lb Ob v0 G ex Q) (hm : Wp (bindK (f d) ex mk) Q fm.xw)
    (k : ∀ x d' vs G' O' H', Same G G' → Hs fm G' (La ++ (O' ++ Lb)) H' → Ob d' v0 G' O' → Ss.r K G' vs x → Wp (mk x d') Q fm.xw → tr D (setL σ is vs) H') : tSeq (tAsg te g) tr D σ H :=
  he d O G H (Same.refl _) hs ob _ (wpX_mono (wpX_K hm) (fun x d' q v G2 O2 H2 e2 hs2 ob2 r => tg G2 H2 v x σ _ hs2.gh r fun vs rv => k x d' vs G2 O2 H2 e2 hs2 ob2 rv q) fun c fs d' z => hx c fs d' z)
theorem w_dropY {mk : α → δ → Res ρ} (he : EvX K fm σ G La Lb Ob v0 te R f) (hs : Hs fm G (La ++ (O ++ Lb)) H) (ob : Ob d v0 G O) (hx : HX fm La Lb Ob v0 G ex Q) (hm : Wp (bindK (f d) ex mk) Q fm.xw)
    (k : ∀ x d' G' O' H', Same G G' → Hs fm G' (La ++ (O' ++ Lb)) H' → Ob d' v0 G' O' → Wp (mk x d') Q fm.xw → tr D σ H') : tSeq (tDrop te) tr D σ H :=
  he d O G H (Same.refl _) hs ob _ (wpX_mono (wpX_K hm) (fun x d' q v G2 O2 H2 e2 hs2 ob2 r => k x d' G2 O2 H2 e2 hs2 ob2 q) fun c fs d' z => hx c fs d' z)
theorem w_retY {kr : α → δ → ρ} (he : EvX K fm σ G La Lb Ob v0 te R f) (hs : Hs fm G (La ++ (O ++ Lb)) H) (ob : Ob d v0 G O) (hx : HX fm La Lb Ob v0 G ex Q) (hm : Wp (bindK (f d) ex fun r d => .ok (kr r d)) Q fm.xw)
    (k : ∀ x d' v G' O' H', Same G G' → Hs fm G' (La ++ (O' ++ Lb)) H' → Ob d' v0 G' O' → R.r K G' v x → Q (kr x d') → D.rt v H') : tSeq (tRet te) tr D σ H :=
  he d O G H (Same.refl _) hs ob _ (wpX_mono (wpX_K hm) (fun x d' q v G2 O2 H2 e2 hs2 ob2 r => k x d' v G2 O2 H2 e2 hs2 ob2 r q.out) fun c fs d' z => hx c fs d' z)
theorem w_ifY {c : TT} {mc : δ → Xs Bool δ} {a b : δ → Res ρ} (hc : EvXT fm σ G La Lb Ob v0 c mc) (hs : Hs fm G (La ++ (O ++ Lb)) H) (ob : Ob d v0 G O) (hx : HX fm La Lb Ob v0 G ex Q) (hm : Wp (bindK (mc d) ex fun x d => if x = true then a d else b d) Q fm.xw)
    (h1 : ∀ d' G' O' H', Same G G' → Hs fm G' (La ++ (O' ++ Lb)) H' → Ob d' v0 G' O' → Wp (a d') Q fm.xw → tt { D with nx := tr D } σ H') (h2 : ∀ d' G' O' H', Same G G' → Hs fm G' (La ++ (O' ++ Lb)) H' → Ob d' v0 G' O' → Wp (b d') Q fm.xw → tu { D with nx := tr D } σ H') : tSeq (tIfS c tt tu) tr D σ H :=
  hc d O G H (Same.refl _) hs ob _ (wpX_mono (wpX_K hm) (fun k d2 q G2 O2 H2 e2 hs2 ob2 => by
    cases k with
    | true => exact h1 d2 G2 O2 H2 e2 hs2 ob2 q
    | false => exact h2 d2 G2 O2 H2 e2 hs2 ob2 q) fun c fs d' z => hx c fs d' z)
/-- in a def whose exceptions tell the state -/
theorem hx_fn {R : Rp β} {Q : VK} : HX fm La Lb Ob v0 G (exX (α := β)) (QX K fm Ob v0 R Q) := fun c fs d' q G2 O2 H2 dd e hs ob xd => q.out G2 O2 H2 dd hs.only ob xd
/-- in a def that owns the object -/
theorem hx_own : HX fm La Lb Ob v0 G (fun c fs (_ : δ) => (.exc c fs : Res ρ)) Q := fun c fs d' q G2 O2 H2 dd e hs ob xd => q.out H2 dd hs.fr xd
theorem QX.ret {R : Rp β} {Q : VK} {x : β} {d' : δ} (h : QX K fm Ob v0 R Q (.ok x, d')) {v : V} {G2 : Hp} {O2 : Own} {H2 : Hp} (hs : Hs fm G2 (La ++ (O2 ++ Lb)) H2) (ob : Ob d' v0 G2 O2) (r : R.r K G2 v x) : Q v H2 := h v G2 O2 H2 hs.only ob r
/-! ### comprehensions whose items write -/
def lcX {α β δ : Type} (f : α → δ → Xs β δ) : List α → δ → Xs (List β) δ
  | [], d => .ok (.ok [], d)
  | x :: xs, d => bindK (f x d) (fun _ _ _ => .stuck) fun y d => bindX (lcX f xs d) fun ys d => .ok (.ok (y :: ys), d)
def lcBX {α β δ : Type} (f : α → δ → Xs β δ) (m : Res (List α)) : δ → Xs (List β) δ := fun d => match m with | .ok xs => if xs.length < lim then lcX f xs d else .stuck | .exc c fs => .ok (.exc c fs, d) | .stuck => .stuck
theorem wpX_S {α β δ : Type} {m : Xs α δ} {k : α → δ → Xs β δ} {Q E} (h : wpX (bindK m (fun _ _ _ => .stuck) k) Q E) : wpX m (fun a d => wpX (k a d) Q E) (fun _ _ _ => False) := by
  unfold wpX bindK at *
  cases m with
  | ok x =>
    obtain ⟨x, d⟩ := x
    cases x with
    | ok a => exact h
    | exc c fs => exact h
  | exc c fs => exact h.elim
  | stuck => exact h.elim
end
end Mw

namespace Mw
open PySem PySem.Spec PyProof.Rows L2
/-! ### loops in defs whose exceptions tell the object's state -/
structure YEnds {S ρ : Type} (fm : Fm) (G : Hp) (W : S → L2.St → Hp → Own → Prop) (RT : ρ → V → Hp → Own → Prop) (XP : ρ → Prop) (Qb : Tn S ρ → Prop) (D : Ends) : Prop where
  nx : ∀ s σ G1 G2 O H, Same G G2 → W s σ G1 O → Same G1 G2 → Hs fm G2 O H → Qb (.nx s) → D.nx σ H
  ct : ∀ s σ G1 G2 O H, Same G G2 → W s σ G1 O → Same G1 G2 → Hs fm G2 O H → Qb (.nx s) → D.ct σ H
  bk : ∀ s σ G1 G2 O H, Same G G2 → W s σ G1 O → Same G1 G2 → Hs fm G2 O H → Qb (.bk s) → D.bk σ H
  rt : ∀ r v G2 O H, Hs fm G2 O H → RT r v G2 O → Qb (.rt r) → D.rt v H
  xt : ∀ r, Qb (.rt r) → XP r
section
variable {α β γ δ ρ : Type} {K : PySem.W.Frag} {fm : Fm} {σ : L2.St} {G G' H H' : Hp} {O : Own}
variable {te ta tb tc : TE} {R : Rp α} {S : Rp β} {T : Rp γ} {m : Res α} {n : Res β}
variable {D : Ends} {tr tt tu tw : TS} {Q : ρ → Prop}
theorem s_forBY {Oi : Own} {S : Type} {Sr : Type} {ti : TI} {g : TG} {Ss : Rps α} {is : List Nat} {m : Res (List α)} {f : α → S → Res (Tn S Sr)} {mk : Lp S Sr → Res ρ} {s0 : S} (W : S → L2.St → Hp → Own → Prop) (RT : Sr → V → Hp → Own → Prop) (XP : Sr → Prop)
    (hi : EvI K fm ti σ G O Oi R m) (hO : ∀ s σ G O, W s σ G O → ∀ p ∈ Oi, p ∈ O) (tg : Tgt K g R Ss is) (hs : Hs fm G O H) (hm : ((m.bind fun xs => forB f xs s0).bind mk).wp Q fm.xw) (h0 : W s0 σ G O)
    (hb : ∀ x s σ' G1 G' O' H' vs (D' : Ends) (Qb : Tn S Sr → Prop), Same G G' → W s σ' G1 O' → Same G1 G' → Hs fm G' O' H' → Ss.r K G' vs x → YEnds fm G' W RT XP Qb D' → (f x s).wp Qb fm.xw → tw D' (setL σ' is vs) H')
    (hn : ∀ s σ' G1 G' O' H', Same G G' → W s σ' G1 O' → Same G1 G' → Hs fm G' O' H' → (mk (.nx s)).wp Q fm.xw → tr D σ' H')
    (hr : ∀ r v G2 O2 H2, Hs fm G2 O2 H2 → RT r v G2 O2 → (mk (.rt r)).wp Q fm.xw → D.rt v H2) (hxt : ∀ r, (mk (.rt r)).wp Q fm.xw → XP r) : tSeq (tFor ti g tw) tr D σ H := by
  refine hi G H (Same.refl _) hs.kn _ (Res.wp_mono (Res.wp_bind (Res.wp_bind hm)) (fun xs q J G2 H2 s it => ?_) fun _ _ z => z)
  refine ⟨fun i mm σ' H' => mm = xs.length - i ∧ i ≤ xs.length ∧ ∃ s' G1 G' O', Same G2 G' ∧ W s' σ' G1 O' ∧ Same G1 G' ∧ Hs fm G' O' H' ∧ ((forB f (xs.drop i) s').bind mk).wp Q fm.xw,
    ⟨xs.length, by simp, Nat.zero_le _, s0, G, G2, O, Same.refl _, h0, s.gg, hs.stp s, by
      rw [List.drop_zero]
      cases hx : forB f xs s0 with
      | ok a => rw [hx] at q; exact q
      | exc c fs => rw [hx] at q; exact q
      | stuck => rw [hx] at q; exact q⟩, ?_⟩
  rintro i mm σ' H' ⟨rfl, hle, s', G1, G', O', g2, w, g1, hs', q'⟩
  by_cases hlt : i < xs.length
  · refine .inr ⟨it.go i G' H' g2 hs'.gh (fun p hp => (hs'.own p (hO _ _ _ _ w p hp)).1) hlt, _, fun σ2 H2 z => ⟨xs.length - (i + 1), by omega, z⟩, fun v H3 y => ?_⟩
    obtain ⟨x, G4, hx, s4, rx⟩ := it.yld i G' H' v H3 g2 hs'.gh (fun p hp => (hs'.own p (hO _ _ _ _ w p hp)).1) hlt y
    have hdrop : xs.drop i = x :: xs.drop (i + 1) := by
      obtain ⟨h1, h2⟩ := List.getElem?_eq_some_iff.mp hx
      rw [List.drop_eq_getElem_cons h1, h2]
    rw [hdrop] at q'
    refine tg G4 H3 v x _ _ s4.gh rx fun vs rvs => ?_
    refine hb x s' σ' G1 G4 O' H3 vs _ (fun t => ((match t with | .nx s' => forB f (xs.drop (i + 1)) s' | .bk s' => .ok (.nx s') | .rt r => .ok (.rt r)).bind mk).wp Q fm.xw) ((s.gg.trans g2).trans s4.gg) w (g1.trans s4.gg) (hs'.stp s4) rvs ⟨?_, ?_, ?_, ?_, fun r q => hxt r q⟩ (Res.wp_bind (by
      have := q'
      rw [forB] at this
      cases hx : f x s' with
      | ok a => rw [hx] at this; exact this
      | exc c fs => rw [hx] at this; exact this
      | stuck => rw [hx] at this; exact this))
    · exact fun s5 σ5 G5 G6 O5 H5 a b c d e => ⟨rfl, hlt, s5, G5, G6, O5, (g2.trans s4.gg).trans a, b, c, d, e⟩
    · exact fun s5 σ5 G5 G6 O5 H5 a b c d e => ⟨rfl, hlt, s5, G5, G6, O5, (g2.trans s4.gg).trans a, b, c, d, e⟩
    · exact fun s5 σ5 G5 G6 O5 H5 a b c d e => hn s5 σ5 G5 G6 O5 H5 (((s.gg.trans g2).trans s4.gg).trans a) b c d e
    · exact fun r v G5 O5 H5 a b c => hr r v G5 O5 H5 a b c
  · have ei : i = xs.length := by omega
    subst ei
    rw [List.drop_length] at q'
    exact .inl ⟨it.stop G' H' g2 hs'.gh (fun p hp => (hs'.own p (hO _ _ _ _ w p hp)).1), hn s' σ' G1 G' O' H' (s.gg.trans g2) w g1 hs' q'⟩
theorem s_whBY {S : Type} {Sr : Type} {c : TT} {mc : S → Res Bool} {f : S → Res (Tn S Sr)} {mk : Lp S Sr → Res ρ} {s0 : S} {fuel : Nat} (W : S → L2.St → Hp → Own → Prop) (RT : Sr → V → Hp → Own → Prop) (XP : Sr → Prop)
    (hs : Hs fm G O H) (hm : ((whB mc f fuel s0).bind mk).wp Q fm.xw) (h0 : W s0 σ G O)
    (hc : ∀ s σ' G1 G' O', Same G G' → W s σ' G1 O' → Same G1 G' → EvT fm c σ' G' O' (mc s))
    (hb : ∀ s σ' G1 G' O' H' (D' : Ends) (Qb : Tn S Sr → Prop), Same G G' → W s σ' G1 O' → Same G1 G' → Hs fm G' O' H' → YEnds fm G' W RT XP Qb D' → (f s).wp Qb fm.xw → tw D' σ' H')
    (hn : ∀ s σ' G1 G' O' H', Same G G' → W s σ' G1 O' → Same G1 G' → Hs fm G' O' H' → (mk (.nx s)).wp Q fm.xw → tr D σ' H')
    (hr : ∀ r v G2 O2 H2, Hs fm G2 O2 H2 → RT r v G2 O2 → (mk (.rt r)).wp Q fm.xw → D.rt v H2) (hxt : ∀ r, (mk (.rt r)).wp Q fm.xw → XP r) : tSeq (tWhile c tw) tr D σ H := by
  refine ⟨fun mm σ' H' => ∃ s' G1 G' O', Same G G' ∧ W s' σ' G1 O' ∧ Same G1 G' ∧ Hs fm G' O' H' ∧ ((whB mc f mm s').bind mk).wp Q fm.xw, ⟨fuel, s0, G, G, O, Same.refl _, h0, Same.refl _, hs, hm⟩, ?_⟩
  rintro mm σ' H' ⟨s', G1, G', O', g, w, g1, hs', q'⟩
  cases mm with
  | zero => exact q'.elim
  | succ mm =>
    have q1 : (mc s').wp (fun b => ((if b = true then (f s').bind fun t => match t with | .nx s' => whB mc f mm s' | .bk s' => .ok (.nx s') | .rt r => .ok (.rt r) else .ok (.nx s')).bind mk).wp Q fm.xw) fm.xw := by
      rw [whB] at q'
      cases hx : mc s' with
      | ok a => rw [hx] at q'; exact q'
      | exc c fs => rw [hx] at q'; exact q'
      | stuck => rw [hx] at q'; exact q'
    refine hc s' σ' G1 G' O' g w g1 G' H' (Same.refl _) hs'.kn _ (Res.wp_mono q1 (fun b q2 G2 H2 s2 => ?_) fun _ _ z => z)
    cases b with
    | true =>
      refine iteT ⟨_, fun σ2 H2 z => ⟨mm, Nat.lt_succ_self _, z⟩, ?_⟩
      rw [if_pos rfl] at q2
      refine hb s' σ' G1 G2 O' H2 _ (fun t => ((match t with | .nx s' => whB mc f mm s' | .bk s' => .ok (.nx s') | .rt r => .ok (.rt r)).bind mk).wp Q fm.xw) (g.trans s2.gg) w (g1.trans s2.gg) (hs'.stp s2) ⟨?_, ?_, ?_, ?_, fun r q => hxt r q⟩ (Res.wp_bind (by
        cases hx : f s' with
        | ok a => rw [hx] at q2; exact q2
        | exc c fs => rw [hx] at q2; exact q2
        | stuck => rw [hx] at q2; exact q2))
      · exact fun s5 σ5 G5 G6 O5 H5 a b c d e => ⟨s5, G5, G6, O5, (g.trans s2.gg).trans a, b, c, d, e⟩
      · exact fun s5 σ5 G5 G6 O5 H5 a b c d e => ⟨s5, G5, G6, O5, (g.trans s2.gg).trans a, b, c, d, e⟩
      · exact fun s5 σ5 G5 G6 O5 H5 a b c d e => hn s5 σ5 G5 G6 O5 H5 ((g.trans s2.gg).trans a) b c d e
      · exact fun r v G5 O5 H5 a b c => hr r v G5 O5 H5 a b c
    | false =>
      refine iteF ?_
      rw [if_neg Bool.false_ne_true] at q2
      exact hn s' σ' G1 G2 O' H2 (g.trans s2.gg) w (g1.trans s2.gg) (hs'.stp s2) q2
theorem w_forBY {Oi : Own} {S : Type} {Sr : Type} {ti : TI} {g : TG} {Ss : Rps α} {is : List Nat} {m : Res (List α)} {f : α → S → Res (Tn S Sr)} {N : S → Res ρ} {Rt : Sr → Res ρ} {s0 : S} (W : S → L2.St → Hp → Own → Prop) (RT : Sr → V → Hp → Own → Prop) (XP : Sr → Prop)
    (hi : EvI K fm ti σ G O Oi R m) (hO : ∀ s σ G O, W s σ G O → ∀ p ∈ Oi, p ∈ O) (tg : Tgt K g R Ss is) (hs : Hs fm G O H) (hm : Wp ((m.bind fun xs => forB f xs s0).bind (Lp.el N Rt)) Q fm.xw) (h0 : W s0 σ G O)
    (hr : ∀ r v G2 O2 H2, Hs fm G2 O2 H2 → RT r v G2 O2 → (Rt r).wp Q fm.xw → D.rt v H2) (hxt : ∀ r, (Rt r).wp Q fm.xw → XP r)
    (hb : ∀ x s σ' G1 G' O' H' vs (D' : Ends) (Qb : Tn S Sr → Prop), Same G G' → W s σ' G1 O' → Same G1 G' → Hs fm G' O' H' → Ss.r K G' vs x → YEnds fm G' W RT XP Qb D' → Wp (f x s) Qb fm.xw → tw D' (setL σ' is vs) H')
    (hn : ∀ s σ' G1 G' O' H', Same G G' → W s σ' G1 O' → Same G1 G' → Hs fm G' O' H' → Wp (N s) Q fm.xw → tr D σ' H') : tSeq (tFor ti g tw) tr D σ H :=
  s_forBY W RT XP hi hO tg hs hm.out h0 (fun x s σ' G1 G' O' H' vs D' Qb a b c d e f g => hb x s σ' G1 G' O' H' vs D' Qb a b c d e f (.mk g)) (fun s σ' G1 G' O' H' a b c d e => hn s σ' G1 G' O' H' a b c d (.mk e)) hr hxt
theorem w_whBY {S : Type} {Sr : Type} {c : TT} {mc : S → Res Bool} {f : S → Res (Tn S Sr)} {N : S → Res ρ} {Rt : Sr → Res ρ} {s0 : S} {fuel : Nat} (W : S → L2.St → Hp → Own → Prop) (RT : Sr → V → Hp → Own → Prop) (XP : Sr → Prop)
    (hs : Hs fm G O H) (hm : Wp ((whB mc f fuel s0).bind (Lp.el N Rt)) Q fm.xw) (h0 : W s0 σ G O)
    (hr : ∀ r v G2 O2 H2, Hs fm G2 O2 H2 → RT r v G2 O2 → (Rt r).wp Q fm.xw → D.rt v H2) (hxt : ∀ r, (Rt r).wp Q fm.xw → XP r)
    (hc : ∀ s σ' G1 G' O', Same G G' → W s σ' G1 O' → Same G1 G' → EvT fm c σ' G' O' (mc s))
    (hb : ∀ s σ' G1 G' O' H' (D' : Ends) (Qb : Tn S Sr → Prop), Same G G' → W s σ' G1 O' → Same G1 G' → Hs fm G' O' H' → YEnds fm G' W RT XP Qb D' → Wp (f s) Qb fm.xw → tw D' σ' H')
    (hn : ∀ s σ' G1 G' O' H', Same G G' → W s σ' G1 O' → Same G1 G' → Hs fm G' O' H' → Wp (N s) Q fm.xw → tr D σ' H') : tSeq (tWhile c tw) tr D σ H :=
  s_whBY W RT XP hs hm.out h0 hc (fun s σ' G1 G' O' H' D' Qb a b c d e f => hb s σ' G1 G' O' H' D' Qb a b c d e (.mk f)) (fun s σ' G1 G' O' H' a b c d e => hn s σ' G1 G' O' H' a b c d (.mk e)) hr hxt
end
/-! what a return in a loop tells, what an exception does -/
def RTX {β δ : Type} (K : PySem.W.Frag) (Ob : δ → V → Hp → Own → Prop) (v0 : V) (R : Rp β) : Xr β × δ → V → Hp → Own → Prop := fun r v G O => ∃ a, r.1 = .ok a ∧ Ob r.2 v0 G O ∧ R.r K G v a
def XPX {β δ : Type} (fm : Fm) (Ob : δ → V → Hp → Own → Prop) (v0 : V) : Xr β × δ → Prop := fun r => match r.1 with | .ok _ => True | .exc c fs => exitX fm Ob v0 c fs r.2
section
variable {α β γ δ ρ S : Type} {K : PySem.W.Frag} {fm : Fm} {σ : L2.St} {G G' H H' : Hp} {O La Lb : Own} {Ob : δ → V → Hp → Own → Prop} {v0 : V} {d : δ}
variable {te ta tb tc : TE} {R : Rp α} {T : Rp γ} {D : Ends} {tr tt tu tw : TS} {Q : ρ → Prop}
theorem rtx_fn {R : Rp β} {Q : VK} : ∀ (r : Xr β × δ) v G2 O2 H2, Hs fm G2 O2 H2 → RTX K Ob v0 R r v G2 O2 → Res.wp (.ok r) (QX K fm Ob v0 R Q) fm.xw → Q v H2 := fun r v G2 O2 H2 hs ⟨a, e, ob, rr⟩ q => by
  obtain ⟨x, d⟩ := r
  cases e
  exact q v G2 O2 H2 hs ob rr
theorem xpx_fn {R : Rp β} {Q : VK} : ∀ (r : Xr β × δ), Res.wp (.ok r) (QX K fm Ob v0 R Q) fm.xw → XPX fm Ob v0 r := fun r q => by
  obtain ⟨x, d⟩ := r
  cases x with
  | ok a => exact True.intro
  | exc c fs => exact q
/-- an exception in a loop -/
def exT {S α δ : Type} : Nat → List (Str × V) → δ → Res (Tn S (Xr α × δ)) := fun c fs d => .ok (.rt (.exc c fs, d))
theorem hx_loop {W : S → L2.St → Hp → Own → Prop} {RT : Xr β × δ → V → Hp → Own → Prop} {Qb : Tn S (Xr β × δ) → Prop} {D' : Ends} {G1 : Hp} (E : YEnds fm G W RT (XPX fm Ob v0) Qb D') : HX fm La Lb Ob v0 G1 (exT (S := S) (α := β)) Qb := fun c fs d' q G2 O2 H2 dd e hs ob xd => E.xt (.exc c fs, d') q.out G2 O2 H2 dd hs.only ob xd
theorem perm_last (La O Lb : Own) (x : Addr × HO) : (La ++ (O ++ (Lb ++ [x]))).Perm (x :: (La ++ (O ++ Lb))) := by
  have : La ++ (O ++ (Lb ++ [x])) = (La ++ (O ++ Lb)) ++ [x] := by simp [List.append_assoc]
  rw [this]
  exact List.perm_append_singleton _ _
/-- [e for x in xs], e writes the object -/
theorem y_lc0 {ti : TI} {g : TG} {ws is : List Nat} {m : Res (List α)} {Ss : Rps α} {Se : Rp β} {f : α → δ → Xs β δ} (obm : Obm Ob)
    (hi : ∀ F O, EvI K (fmH fm F) ti σ G (La ++ (O ++ Lb)) [] R m) (tg : Tgt K g R Ss is) (hw : ∀ i ∈ is, i ∈ ws)
    (hb : ∀ x vs G' Lb', Same G G' → Ss.r K G' vs x → EvX K fm.e0 (setL (wipe σ ws) is vs) G' La Lb' Ob v0 te Se (f x)) :
    EvX K fm σ G La Lb Ob v0 (tLc ti g (fun _ H Q => Q true H) te ws) (rK Se) (lcBX f m) := fun d O G1 H1 e hs ob Q q => by
  have key : ∀ xs, m = .ok xs → wpX (if xs.length < lim then lcX f xs d else .stuck) (fun x d' => ∀ v G2 O2 H2, Same G1 G2 → Hs fm G2 (La ++ (O2 ++ Lb)) H2 → Ob d' v0 G2 O2 → (rK Se).r K G2 v x → Q v H2) (ExK fm La Lb Ob v0 G1) := fun xs em => by
    have q := q
    unfold lcBX at q
    rw [em] at q
    exact q
  refine hi H1 O G1 H1 e ⟨Same.refl _, hs.gh, fun p hp => (hs.own p hp).1⟩ _ ?_
  cases em : m with
  | stuck => rw [show lcBX f m d = .stuck by unfold lcBX; rw [em]] at q; exact q
  | exc c fs =>
    rw [show lcBX f m d = .ok (.exc c fs, d) by unfold lcBX; rw [em]] at q
    exact fun H' dd a b => q G1 O H' dd (Same.refl _) (hs.stp (Stp.grow hs.gh a)) ob b
  | ok xs =>
    intro J G2 H2 s it Dl hD
    have q := key xs em
    by_cases hl : xs.length < lim
    · rw [if_pos hl] at q
      have hs2 := hs.stp s
      have hsD : Hs fm G2 (La ++ (O ++ (Lb ++ [(Dl, .lst [])]))) (upd H2 Dl (.lst [])) := (hs2.new (Stp.grow hs2.gh (same_new hD)) hD (same_back hs2.gh hD) upd_same).perm (perm_last _ _ _ _)
      refine ⟨fun i mm H => mm = xs.length - i ∧ i ≤ xs.length ∧ ∃ (G3 : Hp) (acc : List V) (ys : List β) (d3 : δ) (O3 : Own), Same G2 G3 ∧ Hs fm G3 (La ++ (O3 ++ (Lb ++ [(Dl, .lst acc)]))) H ∧ Ob d3 v0 G3 O3 ∧ acc.length ≤ i ∧ RLs Se K G3 acc ys ∧
          wpX (lcX f (xs.drop i) d3) (fun zs d' => ∀ v G4 O4 H4, Same G1 G4 → Hs fm G4 (La ++ (O4 ++ Lb)) H4 → Ob d' v0 G4 O4 → (rK Se).r K G4 v (ys ++ zs) → Q v H4) (fun _ _ _ => True),
        ⟨xs.length, by simp, Nat.zero_le _, G2, [], [], d, O, Same.refl _, hsD, obm _ _ _ _ _ s.gg ob, Nat.le_refl _, .nil, wpX_mono q (fun _ _ z => z) fun _ _ _ _ => True.intro⟩, ?_⟩
      rintro i mm H ⟨rfl, hle, G3, acc, ys, d3, O3, g3, hs3, ob3, hacc, racc, q3⟩
      by_cases hlt : i < xs.length
      · refine .inr ⟨it.go i G3 H g3 hs3.gh (fun p hp => nomatch hp) hlt, _, fun H' z => ⟨xs.length - (i + 1), by omega, z⟩, fun v H' y => ?_⟩
        obtain ⟨x, G4, hx, s4, rx⟩ := it.yld i G3 H v H' g3 hs3.gh (fun p hp => nomatch hp) hlt y
        have hdrop : xs.drop i = x :: xs.drop (i + 1) := by
          obtain ⟨h1, h2⟩ := List.getElem?_eq_some_iff.mp hx
          rw [List.drop_eq_getElem_cons h1, h2]
        rw [hdrop] at q3
        refine tg G4 H' v x _ _ s4.gh rx fun vs rvs => ⟨by rw [wipe_setL hw, wipe_wipe fun i h => h], ?_⟩
        refine iteT ?_
        have hs4 := hs3.stp s4
        have he := hb x vs G4 (Lb ++ [(Dl, .lst acc)]) ((e.trans s.gg).trans (g3.trans s4.gg)) rvs
        refine he d3 O3 G4 H' (Same.refl _) hs4.withE (obm _ _ _ _ _ s4.gg ob3) _ (wpX_mono (wpX_S q3) (fun y' d6 q6 v' G6 O6 H6 e6 hs6 ob6 r6 => ?_) fun _ _ _ z => z.elim)
        have hs6' : Hs fm G6 (La ++ (O6 ++ (Lb ++ [(Dl, .lst acc)]))) H6 := hs6.withE (E' := fm.E)
        have hp := hs6'.perm (perm_last La O6 Lb (Dl, .lst acc)).symm
        have hset := (hp.set 0 (a := Dl) (o := .lst acc) (o' := .lst (acc ++ [v'])) rfl).perm (perm_last La O6 Lb (Dl, .lst (acc ++ [v'])))
        refine ⟨acc, (hp.at 0 rfl).1, by rw [← lim_eq]; omega, rfl, hlt, G6, acc ++ [v'], ys ++ [y'], d6, O6, g3.trans (s4.gg.trans e6), hset, ob6, by rw [List.length_append, List.length_singleton]; omega, paired_app (racc.mono (s4.gg.trans e6)) (.cons r6 .nil), ?_⟩
        exact wpX_mono (wpX_bind q6) (fun zs d7 q7 w G7 O7 H7 a b c r => q7 w G7 O7 H7 a b c (by rw [List.append_assoc] at r; exact r)) fun _ _ _ z => z
      · have ei : i = xs.length := by omega
        subst ei
        rw [List.drop_length] at q3
        have hp := hs3.perm (perm_last La O3 Lb (Dl, .lst acc)).symm
        have hg := hp.give 0 rfl
        have gD : G3 Dl = none := (hp.at 0 rfl).2.1
        have e3 : Same G3 (upd G3 Dl (.lst acc)) := same_new gD
        exact .inl ⟨it.stop G3 H g3 hs3.gh (fun p hp => nomatch hp), q3 (.ref Dl) (upd G3 Dl (.lst acc)) O3 H ((s.gg.trans g3).trans e3) hg (obm _ _ _ _ _ e3 ob3) ⟨Dl, acc, rfl, upd_same, by rw [List.append_nil]; exact racc.mono e3⟩⟩
    · rw [if_neg hl] at q
      exact q.elim

/-- The list display whose elements may raise, in the kit's own spelling of the condition. -/
theorem y_lc {ti : TI} {g : TG} {ws is : List Nat} {m : Res (List α)} {Ss : Rps α} {Se : Rp β} {f : α → δ → Xs β δ} (obm : Obm Ob)
    (hi : ∀ F O, EvI K (fmH fm F) ti σ G (La ++ (O ++ Lb)) [] R m) (tg : Tgt K g R Ss is) (hw : ∀ i ∈ is, i ∈ ws)
    (hb : ∀ x vs G' Lb', Same G G' → Ss.r K G' vs x → EvX K fm.e0 (setL (wipe σ ws) is vs) G' La Lb' Ob v0 te Se (f x)) :
    EvX K fm σ G La Lb Ob v0 (tLc ti g tYes te ws) (rK Se) (lcBX f m) := y_lc0 obm hi tg hw hb

end
end Mw

namespace Mw
open PySem PySem.Spec PyProof.Rows L2
/-! ### try .. except C as e: any suite, told by the class that is caught -/
noncomputable def tSuG (cl : Nat → Addr) (n : Nat) (th : Addr → Addr → TS) (a : Addr) (cls : Value) (d : Option Addr) : TS := by
  classical exact if h : d = none ∧ ∃ k, k < n ∧ cls = .ref (cl k) then th a (cl h.2.choose) else tNever
theorem tSuG_eq {cl : Nat → Addr} {n : Nat} {th : Addr → Addr → TS} {a : Addr} {k : Nat} (hk : k < n) : tSuG cl n th a (.ref (cl k)) none = th a (cl k) := by
  unfold tSuG
  have h : (none : Option Addr) = none ∧ ∃ j, j < n ∧ Value.ref (cl k) = .ref (cl j) := ⟨rfl, k, hk, rfl⟩
  rw [dif_pos h]
  have e := h.2.choose_spec.2
  injection e with e
  rw [← e]
theorem tSuG_ok {X : Cx} {cl : Nat → Addr} {n : Nat} {th : Addr → Addr → TS} {sts : List Stmt} (hd : ∀ (a : Addr) (oe : Obj) (C : Addr) (pn : List (Addr × Obj)), ExcC X.K C → Zc (.ref C) none oe → (∃ vs, oe.data = .fields vs) → PSs (X.suite a ((a, oe) :: pn)) sts (th a C)) (hec : ∀ k, k < n → ExcC X.K (cl k))
    (a : Addr) (oe : Obj) (cls : Value) (d : Option Addr) (pn : List (Addr × Obj)) (hz : Zc cls d oe) (hf : ∃ vs, oe.data = .fields vs) : PSs (X.suite a ((a, oe) :: pn)) sts (tSuG cl n th a cls d) := by
  classical
  unfold tSuG
  split
  · rename_i h
    obtain ⟨hk, e⟩ := h.2.choose_spec
    obtain ⟨rfl, _⟩ := h
    exact hd a oe _ pn (hec _ hk) (by rw [← e]; exact hz) hf
  · exact pss_never
/-- by the class of what was raised -/
def errK {δ ρ : Type} (n : Nat) (f : Nat → δ → Res ρ) (c : Nat) (fs : List (Str × V)) (d : δ) : Res ρ := if c < n ∧ fs = [] then f c d else .stuck
section
variable {α β γ δ ε ρ α' : Type} {K : PySem.W.Frag} {fm : Fm} {σ : L2.St} {G G' H H' : Hp} {O O' La Lb : Own} {Ob : δ → V → Hp → Own → Prop} {v0 : V} {d : δ}
variable {te ta tb tc : TE} {R : Rp α} {S : Rp β} {T : Rp γ} {D : Ends} {tr tt tu tw : TS} {Q : ρ → Prop}
/-- isinstance(e, C) of what was caught -/
theorem e_isE {i : Nat} {a C : Addr} {c : Addr} {b : Bool} (hx : σ[i]? = some (some (.ref a))) (hk : PySem.W.kitOne K (.ref C) (.ref c) = some b) : EvE K fm (tCB (rIsE K C a) (tCons (tVar i) (tCons (tC (.ref c)) tNil))) σ G O rB (.ok b) := fun G1 H1 e k Q q =>
  ⟨_, hx, .ref _, .ref _, b, rfl, fun u e => e, hk, q (.bl b) G1 H1 (Stp.refl k.gh) rfl⟩
theorem y_callS {S : V → Rps β} {t : TA} {ma : δ → Xs β δ} {h : δ → β → Xs α δ} {Ew : L2.St → XK} (hE : Ew σ = fm.E) (ha : EvXA K fm σ G La Lb Ob v0 t (S v0) ma) : EvX K fm σ G La Lb Ob v0 (tCallS (spX K fm.cl Ob S R h) Ew t) R (callX ma h) := fun d O G1 H1 e hs ob Q q =>
  ha d O G1 H1 e hs ob _ (wpX_mono (wpX_bind q) (fun x d' q vs G2 O2 H2 e2 hs2 ob2 r => by
    show spX K fm.cl Ob S R h vs H2 Q (Ew σ)
    rw [hE]
    exact ⟨without O2 H2, G2, O2, d', v0, x, hs2.sub, ob2, r, .mk (wpX_mono q (fun y d'' q v G3 O3 H3 hs3 ob3 r3 => q v G3 O3 H3 (e2.trans hs3.g0) (hs2.back2 hs3) ob3 r3) fun c fs d'' z G3 O3 H3 dd hs3 ob3 xd => z G3 O3 H3 dd (e2.trans hs3.g0) (hs2.back2 hs3) ob3 xd)⟩) fun _ _ _ z => z)
theorem y_callPS {S : Rps β} {t : TA} {ma : δ → Xs β δ} {h : β → Res α} {Ew : L2.St → XK} (obm : Obm Ob) (hE : Ew σ = fm.E) (ha : EvXA K fm σ G La Lb Ob v0 t S ma) : EvX K fm σ G La Lb Ob v0 (tCallS (spP K fm.cl S R h) Ew t) R (mapX ma h) := fun d O G1 H1 e hs ob Q q =>
  ha d O G1 H1 e hs ob _ (wpX_mono (wpX_bind q) (fun x d' q vs G2 O2 H2 e2 hs2 ob2 r => by
    show spP K fm.cl S R h vs H2 Q (Ew σ)
    rw [hE]
    exact ⟨G2, x, hs2.gh, r, .mk (Res.wp_mono (wpX_pureC q) (fun y q v G3 H3 s r3 => q v G3 O2 H3 (e2.trans s.gg) (hs2.stp s) (obm _ _ _ _ _ s.gg ob2) r3) fun c fs z H' dd a b => z G2 O2 H' dd e2 (hs2.stp (Stp.grow hs2.gh a)) ob2 b)⟩) fun _ _ _ z => z)
theorem w_tryY {tb : WX → TS} {Wout : WX} {c : Value} {i nn : Nat} {th : Addr → Addr → TS} {mb : Xs Unit δ} {hd : Nat → δ → Res ρ} {rest : δ → Res ρ}
    (hs : Hs fm G (La ++ (O ++ Lb)) H) (ob : Ob d v0 G O) (hm : Wp (bindK mb (errK nn hd) fun _ d => rest d) Q fm.xw)
    (hex : ∀ k, k < nn → PySem.W.exmOne K (.ref (fm.cl k)) c = some true)
    (hh : ∀ k a d' G' O' H', k < nn → Same G G' → Hs fm G' (La ++ (O' ++ Lb)) H' → Ob d' v0 G' O' → Wp (hd k d') Q fm.xw → th a (fm.cl k) { nx := fun σ' H' => tr D (σ'.set i none) H', rt := D.rt, bk := fun σ' H' => D.bk (σ'.set i none) H', ct := fun σ' H' => D.ct (σ'.set i none) H' } (σ.set i (some (.ref a))) H')
    (hb : ∀ (D' : Ends) (Qb : Xr Unit × δ → Prop) (W : WX), (∀ d' G' O' H', Same G G' → Hs fm G' (La ++ (O' ++ Lb)) H' → Ob d' v0 G' O' → Qb (.ok (), d') → D'.nx σ H') → (∀ G1, Same G G1 → HX { fm with E := WE W σ } La Lb Ob v0 G1 (exX (α := Unit)) Qb) → Hs { fm with E := WE W σ } G (La ++ (O ++ Lb)) H → Wp mb Qb ({ fm with E := WE W σ } : Fm).xw → tb W D' σ H)
    (hn : ∀ d' G' O' H', Same G G' → Hs fm G' (La ++ (O' ++ Lb)) H' → Ob d' v0 G' O' → Wp (rest d') Q fm.xw → tr D σ H') : tSeq (tTry tb K c i (tSuG fm.cl nn th) Wout) tr D σ H := by
  refine hb _ (fun x => match x.1 with | .ok _ => Wp (rest x.2) Q fm.xw | .exc c fs => Wp (errK nn hd c fs x.2) Q fm.xw) _ (fun d' G' O' H' a b c q => hn d' G' O' H' a b c q) (fun G1 e1 c fs d' q G2 O2 H2 dd e2 hs2 ob2 xd => ?_) hs.withE (.mk ?_)
  · have q2 : Wp (errK nn hd c fs d') Q fm.xw := q.out
    clear q
    unfold errK at q2
    split at q2
    · rename_i hk
      obtain ⟨hk, rfl⟩ := hk
      cases (show dd = none from xd)
      refine ⟨true, hex c hk, fun _ a ha => ?_, fun z => nomatch z⟩
      rw [tSuG_eq hk]
      exact hh c a d' G2 O2 H2 hk (e1.trans e2) (hs2.withE (E' := fm.E)) ob2 q2
    · exact q2.out.elim
  · have q := wpX_K hm
    unfold wpX at q
    cases mb with
    | ok x =>
      obtain ⟨x, d⟩ := x
      cases x with
      | ok a => exact q
      | exc c fs => exact q
    | exc c fs => exact q.elim
    | stuck => exact q.elim
/-- the same without an object -/
def errG {ρ : Type} (n : Nat) (f : Nat → Res ρ) (c : Nat) (fs : List (Str × V)) : Res ρ := if c < n ∧ fs = [] then f c else .stuck
theorem w_tryG {tb : WX → TS} {Wout : WX} {c : Value} {i nn : Nat} {th : Addr → Addr → TS} {mb : Res Unit} {hd : Nat → Res ρ} {rest : Res ρ}
    (hs : Hs fm G O H) (hm : Wp (tryM mb (errG nn hd) (fun _ => rest)) Q fm.xw)
    (hex : ∀ k, k < nn → PySem.W.exmOne K (.ref (fm.cl k)) c = some true)
    (hh : ∀ k a H', k < nn → Hs fm G O H' → Wp (hd k) Q fm.xw → th a (fm.cl k) { nx := fun σ' H' => tr D (σ'.set i none) H', rt := D.rt, bk := fun σ' H' => D.bk (σ'.set i none) H', ct := fun σ' H' => D.ct (σ'.set i none) H' } (σ.set i (some (.ref a))) H')
    (hb : ∀ (D' : Ends) (Qb : Unit → Prop) (W : WX), (∀ G' H', Same G G' → Hs ⟨H, G, WE W σ, fm.cl⟩ G' [] H' → Qb () → D'.nx σ H') → Hs ⟨H, G, WE W σ, fm.cl⟩ G [] H → Wp mb Qb (Fm.xw ⟨H, G, WE W σ, fm.cl⟩) → tb W D' σ H)
    (hn : ∀ G' H', Same G G' → Hs fm G' O H' → Wp rest Q fm.xw → tr D σ H') : tSeq (tTry tb K c i (tSuG fm.cl nn th) Wout) tr D σ H := by
  refine hb _ (fun _ => Wp rest Q fm.xw) _ (fun G' H' a b q => hn G' H' a (hs.stp b.fin) q) (Hs.start hs.gh) (.mk ?_)
  have q := hm.out
  cases mb with
  | ok u => exact .mk q
  | stuck => exact q
  | exc k fs =>
    have q' : (errG nn hd k fs).wp Q fm.xw := q
    unfold errG at q'
    split at q'
    · rename_i hk
      obtain ⟨hk, rfl⟩ := hk
      intro H' d e hd'
      cases (show d = none from hd')
      refine ⟨true, hex k hk, fun _ a ha => ?_, fun z => nomatch z⟩
      rw [tSuG_eq hk]
      exact hh k a H' hk (hs.stp (Stp.grow hs.gh e)) (.mk q')
    · exact q'.elim
end
end Mw

namespace Mw
open PySem PySem.Spec PyProof.Rows L2
/-! ### a sequence of which only the length counts -/
def rSq : Rp Int := ⟨fun K G v n => ∃ p vs, v = .ref p ∧ (SqL K G p vs ∨ SqT K G p vs) ∧ n = (vs.length : Int), fun e ⟨p, vs, a, b, c⟩ => ⟨p, vs, a, b.imp (same_l e) (same_t e), c⟩⟩
section
variable {α β γ δ : Type} {K : PySem.W.Frag} {fm : Fm} {σ : L2.St} {G G' H H' : Hp} {O : Own} {te ta tb : TE} {R : Rp α}
theorem e_seqlen {C : Rp (List α)} (c : Sq K C R) {m : Res (List α)} (h : EvE K fm te σ G O C m) : EvE K fm te σ G O rSq (lenM m) := fun G1 H1 e k Q q =>
  h G1 H1 e k _ (Res.wp_mono (Res.wp_bind q) (fun xs q v G2 H2 s r => by
    obtain ⟨p, vs, ev, hq, r'⟩ := c _ _ _ r
    exact q v G2 H2 s ⟨p, vs, ev, hq, by rw [Paired.length r']⟩) fun _ _ z => z)
theorem e_lenSq {m : Res Int} (h : EvE K fm te σ G O rSq m) : EvE K fm (tCB (Mw.rLen K) (tCons te tNil)) σ G O zI (m.bind .ok) :=
  e_cb (a_one h) fun G1 H1 x vs k ⟨v, ev, r⟩ Q q => by
    subst ev
    obtain ⟨p, ws, rfl, hq, rfl⟩ := r
    refine ⟨_, ws.length, rfl, ?_, q _ G1 H1 (Stp.refl k.gh) rfl⟩
    exact hq.imp (fun h => ⟨ws, same_l k.gh h, rfl⟩) fun h => ⟨ws, same_t k.gh h, rfl⟩
end
end Mw

namespace Mw
open PySem PySem.Spec PyProof.Rows L2
/-! ### readings that neither a list's nor an instance's cell bears -/
def KpT (G G' : Hp) : Prop := ∀ b o, G b = some o → (∀ vs, o ≠ .lst vs) → (∀ C dx fs, o ≠ .ins C dx fs) → G' b = some o
def Nt {α : Type} (R : Rp α) : Prop := ∀ K G G' v x, KpT G G' → R.r K G v x → R.r K G' v x
def Nts {α : Type} (S : Rps α) : Prop := ∀ K G G' vs x, KpT G G' → S.r K G vs x → S.r K G' vs x
section
variable {α β γ δ ε : Type}
theorem nt_sc {R : Rp α} (h : Sc R) : Nt R := fun K G G' v x _ r => h _ _ _ _ _ r
theorem nt_I : Nt zI := nt_sc sc_I
theorem nt_B : Nt rB := nt_sc sc_B
theorem nt_N : Nt rN := nt_sc sc_N
theorem nt_S : Nt rS := nt_sc sc_S
theorem nt_O {R : Rp α} (h : Nt R) : Nt (rO R) := fun K G G' v o k q => by
  cases o with
  | none => exact q
  | some a => exact ⟨q.1, h K G G' v a k q.2⟩
theorem nt_sqT {K : PySem.W.Frag} {G G' : Hp} {p : Addr} {vs : List V} (k : KpT G G') (h : SqT K G p vs) : SqT K G' p vs := by
  rcases h with (h | ⟨o, h⟩) | h
  · exact .inl (.inl (k _ _ h (fun vs q => by cases q) fun C dx fs q => by cases q))
  · exact .inl (.inr ⟨o, k _ _ h (fun vs q => by cases q) fun C dx fs q => by cases q⟩)
  · exact .inr h
theorem nt_T {R : Rp α} (h : Nt R) : Nt (rT R) := fun K G G' v x k ⟨p, vs, a, b, c⟩ => ⟨p, vs, a, nt_sqT k b, Paired.mapP c fun _ _ z => h _ _ _ _ _ k z⟩
theorem nt_P {S : Rps α} (h : Nts S) : Nt (rP S) := fun K G G' v x k ⟨p, vs, a, b, c⟩ => ⟨p, vs, a, nt_sqT k b, h _ _ _ _ _ k c⟩
theorem nts1 {R : Rp α} (h : Nt R) : Nts (rs1 R) := fun K G G' vs x k ⟨v, a, b⟩ => ⟨v, a, h _ _ _ _ _ k b⟩
theorem ntsC {R : Rp α} {S : Rps β} (h : Nt R) (h' : Nts S) : Nts (rsC R S) := fun K G G' vs x k ⟨v, r, a, b, c⟩ => ⟨v, r, a, h _ _ _ _ _ k b, h' _ _ _ _ _ k c⟩
/-- lending, with what kind of cells is lent -/
def LendsT {δ ε : Type} (K : PySem.W.Frag) (Ob : δ → V → Hp → Own → Prop) (Ro : Rp ε) (ro : δ → ε) : Prop := ∀ fm d v G O O' H, Kn fm G O' H → (∀ p ∈ O, p ∈ O') → Ob d v G O → ∃ Gl, Same G Gl ∧ Same Gl H ∧ Ro.r K Gl v (ro d) ∧ ∀ b o, Gl b = some o → G b = none → (∃ vs, o = .lst vs) ∨ ∃ C dx fs, o = .ins C dx fs
/-- the ghost without what was lent -/
def unl (G Gl G2 : Hp) : Hp := fun b => if (Gl b).isSome ∧ G b = none then none else G2 b
theorem unl_stp {G Gl H1 G2 H2 : Hp} (e : Same G Gl) (eh : Same Gl H1) (s : Stp Gl H1 G2 H2) : Stp G H1 (unl G Gl G2) H2 := by
  refine ⟨s.hh, fun b o hb => ?_, fun b o hb => ?_, fun b o hb => ?_⟩
  · unfold unl
    rw [if_neg (by rw [hb]; rintro ⟨_, q⟩; cases q)]
    exact s.gg _ _ (e _ _ hb)
  · unfold unl at hb
    split at hb
    · cases hb
    · exact s.gh _ _ hb
  · unfold unl
    cases hG : G b with
    | some o' =>
      rw [if_neg (by rintro ⟨_, q⟩; cases q), s.old _ _ hb, e _ _ hG]
    | none =>
      cases hl : Gl b with
      | none => rw [if_neg (by rintro ⟨q, _⟩; cases q), s.old _ _ hb, hl]
      | some o' => rw [if_pos ⟨rfl, rfl⟩]
theorem unl_kp {G Gl H1 G2 H2 : Hp} (s : Stp Gl H1 G2 H2) (kd : ∀ b o, Gl b = some o → G b = none → (∃ vs, o = .lst vs) ∨ ∃ C dx fs, o = .ins C dx fs) : KpT G2 (unl G Gl G2) := fun b o hb h1 h2 => by
  unfold unl
  rw [if_neg]
  · exact hb
  · rintro ⟨q1, q2⟩
    obtain ⟨o', ho⟩ := Option.isSome_iff_exists.mp q1
    have := s.gg _ _ ho
    rw [hb] at this
    cases this
    rcases kd b o ho q2 with ⟨vs, q⟩ | ⟨C, dx, fs, q⟩
    · exact h1 vs q
    · exact h2 C dx fs q
variable {K : PySem.W.Frag} {fm : Fm} {σ : L2.St} {G G' H H' : Hp} {O O' La Lb : Own} {Ob : δ → V → Hp → Own → Prop} {v0 : V} {d : δ}
variable {te ta tb tc : TE} {R : Rp α} {S : Rp β} {m : Res α}
theorem e_lendT {Ro : Rp ε} {ro : δ → ε} (obm : Obm Ob) (L : LendsT K Ob Ro ro) (nt : Nt R) (ob : Ob d v0 G O) (h : ∀ G', Same G G' → Ro.r K G' v0 (ro d) → EvE K fm te σ G' (La ++ (O ++ Lb)) R m) : EvE K fm te σ G (La ++ (O ++ Lb)) R m := fun G1 H1 e k Q q => by
  obtain ⟨Gl, e3, e4, rr, kd⟩ := L fm d v0 G1 O _ H1 k (fun p hp => List.mem_append_right _ (List.mem_append_left _ hp)) (obm _ _ _ _ _ e ob)
  exact h Gl (e.trans e3) rr Gl H1 (Same.refl _) ⟨k.fr, e4, k.own⟩ Q (Res.wp_mono q (fun x q v G2 H2 s r => q v (unl G1 Gl G2) H2 (unl_stp e3 e4 s) (nt _ _ _ _ _ (unl_kp s kd) r)) fun _ _ z => z)
/-! ### t[1:] of a tuple of a fixed length -/
theorem e_slP {S : Rps β} {tl th : TO} {m : Res (α × β)} (h : EvE K fm te σ G O (rP (rsC R S)) m) (h1 : EvO fm tl σ G O (.ok (some 1))) (h2 : EvO fm th σ G O (.ok none)) : EvE K fm (tSl (rSlA K) te tl th) σ G O (rP S) (m.bind fun a => .ok a.2) := fun G1 H1 e k Q q =>
  h G1 H1 e k _ (Res.wp_mono (Res.wp_bind q) (fun x q v G2 H2 s r =>
    h1 G2 H2 (e.trans s.gg) (k.stp s) _ (show Res.wp (.ok (some (1 : Int))) _ _ from fun G3 H3 s' =>
      h2 G3 H3 ((e.trans s.gg).trans s'.gg) ((k.stp s).stp s') _ (show Res.wp (.ok (none : Option Int)) _ _ from fun G4 H4 s'' => by
        obtain ⟨p, vs, ev, hq, w, ws, rfl, rw_, rs⟩ := r
        have ss := (s.trans s').trans s''
        have rs' := S.mono (s'.gg.trans s''.gg) rs
        have hq' := same_t (s'.gg.trans s''.gg) hq
        refine ⟨p, w :: ws, ev, same_t ss.gh hq', fun hw => ?_, fun _ p' hp => q _ _ _ (ss.trans (Stp.new ss.gh hp)) ⟨p', cutV (w :: ws) (some 1) none, rfl, .inl (.inl upd_same), ?_⟩⟩
        · exfalso
          have := hw.1
          rw [show (1 : Int) = ((1 : Nat) : Int) from rfl, HT.sIx_nat, List.length_cons] at this
          omega
        · have ec : cutV (w :: ws) (some 1) none = ws := by
            unfold cutV
            rw [show (1 : Int) = ((1 : Nat) : Int) from rfl, HT.sIx_nat, HT.sIx_none, List.length_cons, Nat.min_eq_left (by omega), List.drop_one, List.tail_cons, Nat.add_sub_cancel, List.take_length]
          rw [ec]
          exact S.mono (same_new (same_back ss.gh hp)) rs'))) fun _ _ z => z)
/-- e_call, its way of calling free of the frame -/
theorem e_callH {F G0 : Hp} {E : XK} {cl : Nat → Addr} {β : Type} {S : Rps α} {T : Rp β} {f : α → Res β} {t : TA} {m : Res α} (h : EvA K ⟨F, G0, E, cl⟩ t σ G O S m) : EvE K ⟨F, G0, E, cl⟩ (tCall (spP K cl S T f) [] E t) σ G O T (m.bind f) := e_call (fm := ⟨F, G0, E, cl⟩) h
/-! ### max of two -/
def rMx2 : List V → Hp → VK → Prop := fun xs H Q => ∃ i j, xs = [.int i, .int j] ∧ Q (.int (if j > i then j else i)) H
def max2M (a b : Res Int) : Res Int := (pairM a b).bind fun p => .ok (if p.2 > p.1 then p.2 else p.1)
theorem e_max2 {a b : Res Int} (ha : EvE K fm ta σ G O zI a) (hb : EvE K fm tb σ G O zI b) : EvE K fm (tCB rMx2 (tCons ta (tCons tb tNil))) σ G O zI (max2M a b) :=
  e_cb (a_cons ha (a_one hb)) fun G1 H1 x vs k r Q q => by
    obtain ⟨v, ws, rfl, hx, u, rfl, hy⟩ := r
    cases (show v = .int x.1 from hx); cases (show u = .int x.2 from hy)
    unfold rMx2
    exact ⟨_, _, rfl, q _ G1 H1 (Stp.refl k.gh) rfl⟩
end
end Mw

namespace Mw
open PySem PySem.Spec PyProof.Rows L2
/-! ### what a def that writes an object returns: a new list -/
def spXF {α β δ : Type} (K : PySem.W.Frag) (cl : Nat → Addr) (Ob : δ → V → Hp → Own → Prop) (S : V → Rps α) (Rf : Hp → Rp β) (f : δ → α → Xs β δ) : Sp := fun vs H Q E => ∃ F G O d v0 a, Hs ⟨F, G, E, cl⟩ G O H ∧ Ob d v0 G O ∧ (S v0).r K G vs a ∧
  WpX (f d a) (fun y d' => ∀ v G' O' H', Hs ⟨F, G, E, cl⟩ G' O' H' → Ob d' v0 G' O' → (Rf F).r K G' v y → Q v H') (exitX ⟨F, G, E, cl⟩ Ob v0)
/-- the object doesn't mind that a list's cell leaves the ghost -/
def ObL {δ : Type} (Ob : δ → V → Hp → Own → Prop) : Prop := ∀ d v G G' O, KpL G G' → Ob d v G O → Ob d v G' O
def erase (G : Hp) (p : Addr) : Hp := fun b => if b = p then none else G b
theorem erase_ne {G : Hp} {p b : Addr} (h : b ≠ p) : erase G p b = G b := if_neg h
theorem erase_eq {G : Hp} {p : Addr} : erase G p p = none := if_pos rfl
theorem erase_some {G : Hp} {p b : Addr} {o : HO} (h : erase G p b = some o) : b ≠ p ∧ G b = some o := by
  by_cases e : b = p
  · rw [e, erase_eq] at h; cases h
  · exact ⟨e, by rw [erase_ne e] at h; exact h⟩
theorem erase_kp {G : Hp} {p : Addr} {vs : List V} (h : G p = some (.lst vs)) : KpL G (erase G p) := fun b o hb hn => by
  have hne : b ≠ p := fun e => by rw [e, h] at hb; cases hb; exact hn _ rfl
  rw [erase_ne hne]; exact hb
/-- a cell of the ghost becomes one's own -/
theorem Hs.take {fm : Fm} {G H : Hp} {O : Own} {p : Addr} {o : HO} (h : Hs fm G O H) (hp : G p = some o) (hF : fm.F p = none) (h0 : fm.G0 p = none) : Hs fm (erase G p) ((p, o) :: O) H := by
  refine ⟨h.fr, fun b o' hb => ?_, fun b o' hb => h.gh _ _ (erase_some hb).2, fun b o' hb => ?_, fun q hq => ?_, ?_⟩
  · have hne : b ≠ p := fun e => by rw [e, h0] at hb; cases hb
    rw [erase_ne hne]; exact h.g0 _ _ hb
  · have hne : b ≠ p := fun e => by rw [e, hF] at hb; cases hb
    rw [erase_ne hne]; exact h.old _ _ hb
  · rcases List.mem_cons.mp hq with rfl | hq
    · exact ⟨h.gh _ _ hp, erase_eq, hF⟩
    · obtain ⟨a, b, c⟩ := h.own q hq
      refine ⟨a, ?_, c⟩
      by_cases e : q.1 = p
      · rw [e, erase_eq]
      · rw [erase_ne e]; exact b
  · rw [List.map_cons, List.nodup_cons]
    refine ⟨fun hm => ?_, h.nd⟩
    obtain ⟨q, hq, e⟩ := List.mem_map.mp hm
    have := (h.own q hq).2.1
    rw [show q.1 = p from e, hp] at this
    cases this
section
variable {α β γ δ ε ρ : Type} {K : PySem.W.Frag} {fm : Fm} {σ : L2.St} {G G' H H' : Hp} {O O' La Lb : Own} {Ob : δ → V → Hp → Own → Prop} {v0 : V} {d : δ}
variable {te : TE} {R : Rp α} {D : Ends} {tr : TS} {Q : ρ → Prop} {ex : Nat → List (Str × V) → δ → Res ρ} {f : δ → Xs (List α) δ}
theorem y_pureN0 {m : Res (List α)} (obm : Obm Ob) (h : ∀ F O, EvN K (fmH fm F) te σ G (La ++ (O ++ Lb)) R m) : EvX K fm σ G La Lb Ob v0 te (rF fm.F R) (pureX fun _ => m) := fun d O G1 H1 e hs ob Q q =>
  h H1 O G1 H1 e ⟨Same.refl _, hs.gh, fun p hp => (hs.own p hp).1⟩ Q (Res.wp_mono (wpX_pureC q) (fun xs q p vs G2 H2 s hp gp hl r =>
    q (.ref p) (upd G2 p (.lst vs)) O H2 (s.gg.trans (same_new gp)) (hs.stp ⟨s.hh, s.gg.trans (same_new gp), same_updG s.gh hl, fun b o e => by rw [upd_ne (ne_of_none e hp)]; exact s.old b o e⟩)
      (obm _ _ _ _ _ (s.gg.trans (same_new gp)) ob) ⟨p, vs, rfl, same_back hs.fr hp, upd_same, r.mono (same_new gp)⟩) fun c fs z H' dd a b => z G1 O H' dd (Same.refl _) (hs.stp (Stp.grow hs.gh a)) ob b)
/-- the frame of the callee knows all that is not the object's -/
theorem frame_none {p : Addr} (hs : Hs fm G (La ++ (O ++ Lb)) H) (h : without O H p = none) (hg : G p = none ∨ True) : fm.F p = none ∧ (p ∈ O.map (·.1) ∨ H p = none) := by
  by_cases hm : p ∈ O.map (·.1)
  · obtain ⟨q, hq, rfl⟩ := List.mem_map.mp hm
    exact ⟨(hs.own q (List.mem_append_right _ (List.mem_append_left _ hq))).2.2, .inl hm⟩
  · rw [without_out hm] at h
    exact ⟨same_back hs.fr h, .inr h⟩
theorem ghost_none {p : Addr} (hs : Hs fm G (La ++ (O ++ Lb)) H) (h : without O H p = none) : G p = none := by
  rcases (frame_none hs h (.inr trivial)).2 with hm | hh
  · obtain ⟨q, hq, rfl⟩ := List.mem_map.mp hm
    exact (hs.own q (List.mem_append_right _ (List.mem_append_left _ hq))).2.1
  · exact same_back hs.gh hh
theorem y_callXF {S : V → Rps β} {t : TA} {ma : δ → Xs β δ} {h : δ → β → Xs (List α) δ} (ha : EvXA K fm σ G La Lb Ob v0 t (S v0) ma) : EvX K fm σ G La Lb Ob v0 (tCall (spXF K fm.cl Ob S (fun F => rF F R) h) [] fm.E t) (rF fm.F R) (callX ma h) := fun d O G1 H1 e hs ob Q q =>
  ha d O G1 H1 e hs ob _ (wpX_mono (wpX_bind q) (fun x d' q vs G2 O2 H2 e2 hs2 ob2 r =>
    ⟨without O2 H2, G2, O2, d', v0, x, hs2.sub, ob2, by rw [List.append_nil]; exact r, .mk (wpX_mono q (fun y d'' q v G3 O3 H3 hs3 ob3 r3 => q v G3 O3 H3 (e2.trans hs3.g0) (hs2.back2 hs3) ob3 (by
      obtain ⟨p, ws, a, b, c, dd⟩ := r3
      exact ⟨p, ws, a, (frame_none hs2 b (.inr trivial)).1, c, dd⟩)) fun c fs d'' z G3 O3 H3 dd hs3 ob3 xd => z G3 O3 H3 dd (e2.trans hs3.g0) (hs2.back2 hs3) ob3 xd)⟩) fun _ _ _ z => z)
/-- a new list, as a value -/
theorem y_FK {F : Hp} (h : EvX K fm σ G La Lb Ob v0 te (rF F R) f) : EvX K fm σ G La Lb Ob v0 te (rK R) f := fun d O G1 H1 e hs ob Q q =>
  h d O G1 H1 e hs ob Q (wpX_mono q (fun x d' q v G2 O2 H2 e2 hs2 ob2 r => q v G2 O2 H2 e2 hs2 ob2 (rF_rK r)) fun _ _ _ z => z)
theorem spXF_of {cl : Nat → Addr} {S : V → Rps β} {h : δ → β → Xs (List α) δ} (vs : List V) (H : Hp) (Q : VK) (E : XK) (q : spX K cl Ob S (rK R) h vs H Q E) : spXF K cl Ob S (fun F => rF F R) h vs H Q E := by
  obtain ⟨F, G, O, d, v0, a, hs, ob, hS, hm⟩ := q
  exact ⟨F, G, O, d, v0, a, hs, ob, hS, .mk (wpX_mono hm.out (fun y d' q v G' O' H' hs' ob' r => q v G' O' H' hs' ob' (rF_rK r)) fun _ _ _ z => z)⟩
/-- the call as one that returns some list -/
def Cal.xf {P : Program} {w : World} {mg : Str → Option Value} {base : Heap} {x : Str} {k : Nat} {ps : List Str} {cl : Nat → Addr} {S : V → Rps β} {h : δ → β → Xs (List α) δ} (C : Cal P w K mg base x k ps (spXF K cl Ob S (fun F => rF F R) h)) : Cal P w K mg base x k ps (spX K cl Ob S (rK R) h) :=
  ⟨C.f, C.fd, C.ok.imp spXF_of, C.mgx, C.kp, C.bd⟩
/-- a new list, as one's own -/
def EvXN (K : PySem.W.Frag) (fm : Fm) (σ : L2.St) (G : Hp) (La Lb : Own) (Ob : δ → V → Hp → Own → Prop) (v0 : V) (te : TE) (R : Rp α) (f : δ → Xs (List α) δ) : Prop := ∀ d O G1 H1, Same G G1 → Hs fm G1 (La ++ (O ++ Lb)) H1 → Ob d v0 G1 O → ∀ Q : VK,
  wpX (f d) (fun x d' => ∀ p vs G2 O2 H2, Same G1 G2 → Hs fm G2 ((p, .lst vs) :: (La ++ (O2 ++ Lb))) H2 → Ob d' v0 G2 O2 → RLs R K G2 vs x → Q (.ref p) H2) (ExK fm La Lb Ob v0 G1) → te σ H1 Q
theorem yN_call {S : V → Rps β} {t : TA} {ma : δ → Xs β δ} {h : δ → β → Xs (List α) δ} (ol : ObL Ob) (sl : Nl R) (ha : EvXA K fm σ G La Lb Ob v0 t (S v0) ma) : EvXN K fm σ G La Lb Ob v0 (tCall (spXF K fm.cl Ob S (fun F => rF F R) h) [] fm.E t) R (callX ma h) := fun d O G1 H1 e hs ob Q q =>
  ha d O G1 H1 e hs ob _ (wpX_mono (wpX_bind q) (fun x d' q vs G2 O2 H2 e2 hs2 ob2 r =>
    ⟨without O2 H2, G2, O2, d', v0, x, hs2.sub, ob2, by rw [List.append_nil]; exact r, .mk (wpX_mono q (fun y d'' q v G3 O3 H3 hs3 ob3 r3 => by
      obtain ⟨p, ws, rfl, b, c, dd⟩ := r3
      have h3 := hs2.back2 hs3
      have g2 : G2 p = none := ghost_none hs2 b
      have hkp := erase_kp c
      refine q p ws (erase G3 p) O3 H3 (fun a o ha => ?_) (h3.take c (frame_none hs2 b (.inr trivial)).1 (same_back (hs2.g0) g2)) (ol _ _ _ _ _ hkp ob3) (Paired.mapP dd fun _ _ z => sl _ _ _ _ _ hkp z)
      have hne : a ≠ p := fun q => by
        rw [q] at ha
        have := e2 _ _ ha
        rw [g2] at this
        cases this
      rw [erase_ne hne]
      exact hs3.g0 _ _ (e2 _ _ ha)) fun c fs d'' z G3 O3 H3 dd hs3 ob3 xd => z G3 O3 H3 dd (e2.trans hs3.g0) (hs2.back2 hs3) ob3 xd)⟩) fun _ _ _ z => z)
theorem w_asgYN {i : Nat} {mk : List α → δ → Res ρ} (he : EvXN K fm σ G La Lb Ob v0 te R f) (hs : Hs fm G (La ++ (O ++ Lb)) H) (ob : Ob d v0 G O) (hx : HX fm La Lb Ob v0 G ex Q) (hm : Wp (bindK (f d) ex mk) Q fm.xw)
    (k : ∀ x d' p vs G' O' H', Same G G' → Hs fm G' ((p, .lst vs) :: (La ++ (O' ++ Lb))) H' → Ob d' v0 G' O' → RLs R K G' vs x → Wp (mk x d') Q fm.xw → tr D (σ.set i (some (.ref p))) H') : tSeq (tAsg te (gName i)) tr D σ H :=
  he d O G H (Same.refl _) hs ob _ (wpX_mono (wpX_K hm) (fun x d' q p vs G2 O2 H2 e2 hs2 ob2 r => k x d' p vs G2 O2 H2 e2 hs2 ob2 r q) fun c fs d' z => hx c fs d' z)
end
end Mw

namespace Mw
open PySem PySem.Spec PyProof.Rows L2
/-- the result alone, the object forgotten -/
def outX {α δ : Type} (m : Xs α δ) : Res α := bindK m (fun c fs _ => .exc c fs) fun r _ => .ok r
theorem outX_ok {α δ : Type} (a : α) (d : δ) : outX (.ok (.ok a, d) : Xs α δ) = .ok a := rfl
section
variable {α β γ δ : Type} {K : PySem.W.Frag} {fm : Fm} {σ : L2.St} {G : Hp} {O : Own} {R : Rp α}
/-- f(C(..), ..): an object that nobody holds -/
theorem e_callMk {C : Addr} {Ob : δ → V → Hp → Own → Prop} {Si : Rps β} {S : Rps γ} {ti t : TA} {f : β → Res δ} {h : δ → γ → Xs α δ} {mi : Res β} {m : Res γ} (obm : Obm Ob) (hi : EvA K fm ti σ G O Si mi) (ha : EvA K fm t σ G O S m) :
    EvE K fm (tCall (spX K fm.cl Ob (fun v0 => rsV v0 S) R h) [] fm.E (tCons (tMake C (spI K fm.cl C Ob Si f) [] fm.E ti) t)) σ G O R ((mi.bind f).bind fun d => m.bind fun a => outX (h d a)) := fun G1 H1 e k Q q =>
  hi G1 H1 e k _ (Res.wp_mono (Res.wp_bind (Res.wp_bind q)) (fun c q vs G2 H2 s r => by
    intro x dx hx hdx hne
    have hs2 : Hs ⟨H2, G2, fm.E, fm.cl⟩ G2 [] H2 := Hs.start s.gh
    have s1 := Stp.new (o := HO.own x) s.gh hdx
    have hs3 := hs2.stp s1
    have hx3 : upd H2 dx (HO.own x) x = none := by rw [upd_ne (fun e => hne e.symm)]; exact hx
    have hs4 := hs3.new (p := x) (o := .ins C dx []) (Stp.grow hs3.gh (same_new hx3)) hx3 (same_back hs3.gh hx3) upd_same
    have hs5 : Hs ⟨H2, G2, fm.E, fm.cl⟩ (upd G2 dx (.own x)) ([] ++ ([(x, .ins C dx [])] ++ [])) _ := hs4
    have fr2 : Same fm.F H2 := k.fr.trans s.hh
    have xw2 : ∀ cc fs, fm.xw cc fs → Fm.xw ⟨H2, G2, fm.E, fm.cl⟩ cc fs := fun cc fs z H' dd a b => z H' dd (fr2.trans a) b
    refine ⟨_, _, x, dx, vs, c, by rw [List.append_nil], hs5.sub, Si.mono s1.gg r, .mk (Res.wp_mono (m := f c) q (fun d q G' O' H' hh ob => ⟨rfl, ?_⟩) fun cc fs z => xw_sub (fm := ⟨H2, G2, fm.E, fm.cl⟩) hs5 (xw2 _ _ z))⟩
    have h6 : Hs ⟨H2, G2, fm.E, fm.cl⟩ G' ([] ++ (O' ++ [])) H' := hs5.back2 hh
    have gg6 : Same G1 G' := s.gg.trans h6.g0
    have k6 : Kn fm G' O H' := ⟨fr2.trans h6.fr, h6.gh, fun p hp => h6.fr _ _ (s.hh _ _ (k.own p hp))⟩
    refine ha G' H' (e.trans gg6) k6 _ (Res.wp_mono (Res.wp_bind q) (fun a q ws G7 H7 s7 r7 => ?_) fun _ _ z => z)
    have h7 := h6.stp s7
    have ob7 := obm _ _ _ _ _ s7.gg ob
    have q : (outX (h d a)).wp _ _ := q
    refine ⟨_, _, O', d, .ref x, a, h7.sub, ob7, ⟨ws, by rw [List.append_nil], r7⟩, .mk ?_⟩
    unfold wpX
    unfold outX bindK at q
    cases hm : h d a with
    | ok y =>
      rw [hm] at q
      obtain ⟨y, d2⟩ := y
      cases y with
      | ok y =>
        intro v G8 O8 H8 h8 ob8 r8
        have h9 : Hs ⟨H2, G2, fm.E, fm.cl⟩ G8 ([] ++ (O8 ++ [])) H8 := h7.back2 h8
        exact q v G8 H8 ⟨s.hh.trans h9.fr, s.gg.trans h9.g0, h9.gh, fun b o hb => (h9.old _ _ (s.hh _ _ hb)).trans (s.old _ _ hb)⟩ r8
      | exc cc fs =>
        intro G8 O8 H8 dd h8 ob8 xd
        have h9 : Hs ⟨H2, G2, fm.E, fm.cl⟩ G8 ([] ++ (O8 ++ [])) H8 := h7.back2 h8
        exact q H8 dd (fr2.trans h9.fr) xd
    | exc cc fs => rw [hm] at q; exact q.elim
    | stuck => rw [hm] at q; exact q.elim) fun _ _ z => z)
end
end Mw

/-! Texts, dicts that are handed on, dict comprehensions -/
namespace Mw
open PySem PySem.Spec PyProof.Rows L2
theorem sw_trueD {kx vx : Expr} {gs : List Comprehension} {scope : Scope} {pos py : Pos} {y : Str} {l : Nat} {env : Env}
    (hk : env.scope.kind = ScopeKind.function) (hl : List.lookup y env.scope.names = some NameKind.local) (hp : (py.line == pos.line) = true)
    (hn : (scope.names.any fun x => match x with | (n, k) => n == y && (k == NameKind.local || k == NameKind.cell)) = false) :
    swapsWith (kx.DictComp vx gs scope pos) (some (Expr.Name y py)) l env = pure true := by
  have := sw_true (elt := kx) (gs := gs) (scope := scope) (pos := pos) (py := py) (y := y) (l := l) (env := env) hk hl hp hn
  exact this
theorem ps_setDc {X : L2.Cx} {i : Nat} {y : Str} {py : Pos} {kx vx tg iter : Expr} {ifs : List Expr}
  {scope : Scope} {own : List (Str × Nat)} {pos spos : Pos} {wi : L2.TI} {g : L2.TG} {tt : L2.TT} {tk tv : L2.TE}
  (hc : X.calm = true) (hN : X.N.Nodup) (hy : X.N[i]? = some y) (hyl : List.lookup y X.env.scope.names = some NameKind.local)
  (hsw : swapsWith (kx.DictComp vx [{ target := tg, iter := iter, ifs := ifs, is_async := 0 }] scope pos) (some (Expr.Name y py)) spos.line X.env = pure true)
  (hi : L2.PI X tg iter wi) (ok : L2.BlkOk X.N X.env.scope scope own)
  (hg : ∀ (s : Shared) (H : L2.Hp) (C : Addr) (cl : List (Str × Addr)) (fp : List Addr), L2.PG (X.blk s H scope (compEnvC scope cl C X.env) fp) tg g)
  (ht : ∀ (s : Shared) (H : L2.Hp) (C : Addr) (cl : List (Str × Addr)) (fp : List Addr), L2.PTs (X.blk s H scope (compEnvC scope cl C X.env) fp) ifs tt)
  (hk : ∀ (s : Shared) (H : L2.Hp) (C : Addr) (cl : List (Str × Addr)) (fp : List Addr), L2.PE (X.blk s H scope (compEnvC scope cl C X.env) fp) kx tk)
  (he : ∀ (s : Shared) (H : L2.Hp) (C : Addr) (cl : List (Str × Addr)) (fp : List Addr), L2.PE (X.blk s H scope (compEnvC scope cl C X.env) fp) vx tv)
  (hs : ∀ (x : Value), foldedSetIterable iter X.env x = pure x := by exact fun _ => rfl) :
  L2.PS X (Stmt.Assign [Expr.Name y py] (kx.DictComp vx [{ target := tg, iter := iter, ifs := ifs, is_async := 0 }] scope pos) spos)
    (L2.tAsg (L2.tDc wi g tt tk tv (List.map (fun x => x.snd) own)) (L2.gName i)) :=
  { run := fun pins s σ H D I h => by
      rw [exec_Assign_Name_used y py (kx.DictComp vx [{ target := tg, iter := iter, ifs := ifs, is_async := 0 }] scope pos) spos hsw]
      refine wpAny_bind (wpAny_standAt (wpAny_bind ?_))
      refine wpAny_bind (L2.thn (L2.dc_core (Qf := fun _ s' => L2.SP X pins D Flow.next s') hc hN I hi ok hg ht hk he hs h fun L C s' m H' I' q hn f => ?_) fun x s' hq => ?_)
      · refine wpAny_assign_Name (L2.store_ok2 (v := L2.V.ref L) I' hN hy (Or.inl hyl) rfl (fun s2 I2 x => ?_) (Or.inr hyl))
        obtain ⟨a, sb, ha⟩ := x
        obtain ⟨f0, f1, f2, f3, f4, f5⟩ := f
        have haC : C ≠ a := by
          rcases ha with z | z
          · rw [z]; exact f1
          · exact fun e => f4 y a z e.symm
        exact ⟨m, hn.sameBut sb haC, fun h3 sb3 => ⟨σ.set i (some (L2.V.ref L)), H', L2.Inv.turned I2 (fun b o hb e => (sb3.right b hb).trans e) f0 f1 f3 f4 f5, q⟩⟩
      · exact wpAny_pure (wpAny_pure hq) }
section
variable {α β γ δ ρ κ : Type} [DecidableEq κ] {K : PySem.W.Frag} {fm : Fm} {σ : L2.St} {G G' H H' : Hp} {O : Own}
variable {te ta tb tc : TE} {R : Rp α} {S : Rp β} {T : Rp γ} {m : Res α} {n : Res β}
variable {D : Ends} {tr tt tu tw : TS} {Q : ρ → Prop}
/-! ### dict comprehensions: a new dict of one's own -/
def dcM {α κ β : Type} [DecidableEq κ] (kf : α → Res κ) (vf : α → Res β) : List (κ × β) → List α → Res (List (κ × β))
  | ys, [] => .ok ys
  | ys, x :: xs => (kf x).nox.bind fun y => (vf x).nox.bind fun z => dcM kf vf (dput ys y z) xs
def dcB {α κ β : Type} [DecidableEq κ] (kf : α → Res κ) (vf : α → Res β) (m : Res (List α)) : Res (List (κ × β)) := m.bind fun xs => if xs.length < lim then dcM kf vf [] xs else .stuck
def EvDN (K : PySem.W.Frag) (fm : Fm) (te : TE) (σ : L2.St) (G : Hp) (O : Own) (k : Ke κ) (R : Rp β) (m : Res (List (κ × β))) : Prop :=
  ∀ G1 H1, Same G G1 → Kn fm G1 O H1 → ∀ Q : VK, m.wp (fun xs => ∀ p vs G2 H2, Stp G1 H1 G2 H2 → H1 p = none → G2 p = none → H2 p = some (.dK vs) → RKs k R K G2 vs xs → Q (.ref p) H2) fm.xw → te σ H1 Q
theorem dput_len (xs : List (κ × β)) (k : κ) (v : β) : (dput xs k v).length ≤ xs.length + 1 := by
  unfold dput
  split
  · rw [List.length_map]; omega
  · rw [List.length_append]; simp
theorem n_dc {Oi : Own} {ti : TI} {g : TG} {tk tv : TE} {ws is : List Nat} {m : Res (List α)} {Ss : Rps α} {k : Ke κ} {kf : α → Res κ} {vf : α → Res β}
    (hi : EvI K fm ti σ G O Oi R m) (hO : ∀ p ∈ Oi, p ∈ O) (tg : Tgt K g R Ss is) (hw : ∀ i ∈ is, i ∈ ws)
    (hb : ∀ x vs G', Same G G' → Ss.r K G' vs x → EvE K fm.e0 tk (setL (wipe σ ws) is vs) G' O k.rp (kf x) ∧ EvE K fm.e0 tv (setL (wipe σ ws) is vs) G' O S (vf x)) :
    EvDN K fm (tDc ti g tYes tk tv ws) σ G O k S (dcB kf vf m) := fun G1 H1 e kn Q q =>
  hi G1 H1 e kn _ (Res.wp_mono (Res.wp_bind q) (fun xs q J G2 H2 s it Dl hD => by
    by_cases hl : xs.length < lim
    · rw [if_pos hl] at q
      have kD : Kn fm G2 O (upd H2 Dl (.dK [])) := (kn.stp s).stp (Stp.grow s.gh (same_new hD))
      have gD : G2 Dl = none := same_back s.gh hD
      refine ⟨fun i mm H => mm = xs.length - i ∧ i ≤ xs.length ∧ ∃ (G3 : Hp) (acc : List (Key × V)) (ys : List (κ × β)), Same G2 G3 ∧ Stp G2 H2 G3 H ∧ Kn fm G3 O H ∧ G3 Dl = none ∧ H Dl = some (.dK acc) ∧ acc.length ≤ i ∧ RKs k S K G3 acc ys ∧
          (dcM kf vf ys (xs.drop i)).wp (fun zs => ∀ (q : Addr) vs G4 H4, Stp G1 H1 G4 H4 → H1 q = none → G4 q = none → H4 q = some (.dK vs) → RKs k S K G4 vs zs → Q (.ref q) H4) fm.xw,
        ⟨xs.length, by simp, Nat.zero_le _, G2, [], [], Same.refl _, Stp.grow s.gh (same_new hD), kD, gD, upd_same, Nat.le_refl _, .nil, q⟩, ?_⟩
      rintro i mm H ⟨rfl, hle, G3, acc, ys, g3, s3, k3, d3, hd3, hacc, racc, q3⟩
      by_cases hlt : i < xs.length
      · refine .inr ⟨it.go i G3 H g3 k3.gh (fun p hp => k3.own p (hO p hp)) hlt, _, fun H' z => ⟨xs.length - (i + 1), by omega, z⟩, fun v H' y => ?_⟩
        obtain ⟨x, G4, hx, s4, rx⟩ := it.yld i G3 H v H' g3 k3.gh (fun p hp => k3.own p (hO p hp)) hlt y
        have hdrop : xs.drop i = x :: xs.drop (i + 1) := by
          obtain ⟨h1, h2⟩ := List.getElem?_eq_some_iff.mp hx
          rw [List.drop_eq_getElem_cons h1, h2]
        rw [hdrop] at q3
        refine tg G4 H' v x _ _ s4.gh rx fun vs rvs => ⟨by rw [wipe_setL hw, wipe_wipe fun i h => h], ?_⟩
        obtain ⟨ht, he⟩ := hb x vs G4 ((e.trans s.gg).trans (g3.trans s4.gg)) rvs
        have k4 : Kn fm G4 O H' := k3.stp s4
        have hd4 : H' Dl = some (.dK acc) := s4.hh _ _ hd3
        have gd4 : G4 Dl = none := by rw [s4.old Dl _ hd3]; exact d3
        unfold tYes
        dsimp only
        rw [if_pos rfl]
        refine ht G4 H' (Same.refl _) k4.e0 _ (Res.wp_mono (Res.wp_nox (Res.wp_bind q3)) (fun b q5 w G5 H5 s5 r5 => ?_) fun _ _ z => z)
        have hd5 : H5 Dl = some (.dK acc) := s5.hh _ _ hd4
        have gd5 : G5 Dl = none := by rw [s5.old Dl _ hd4]; exact gd4
        refine he G5 H5 s5.gg (k4.stp s5).e0 _ (Res.wp_mono (Res.wp_nox (Res.wp_bind q5)) (fun y q6 v' G6 H6 s6 r6 => ?_) fun _ _ z => z)
        have hd6 : H6 Dl = some (.dK acc) := s6.hh _ _ hd5
        have gd6 : G6 Dl = none := by rw [s6.old Dl _ hd5]; exact gd5
        have sAll : Stp G2 H2 G6 H6 := s3.trans ((s4.trans s5).trans s6)
        have hacc' : (putK acc (k.enc b) v').length ≤ i + 1 := by
          unfold putK
          split
          · rw [List.length_map]; omega
          · rw [List.length_append]; simp; omega
        refine ⟨acc, k.enc b, k.is.mp r5, hd6, by rw [← lim_eq]; omega, rfl, hlt, G6, putK acc (k.enc b) v', dput ys b y, g3.trans ((s4.gg.trans s5.gg).trans s6.gg), ?_, ?_, gd6, upd_same, hacc', (racc.mono ((s4.gg.trans s5.gg).trans s6.gg)).put b r6, ?_⟩
        · exact ⟨same_mut sAll.hh hD, sAll.gg, same_mut sAll.gh gd6, sAll.old⟩
        · have k6 := (k4.stp s5).stp s6
          refine ⟨fun b o h => ?_, same_mut k6.gh gd6, fun p hp => ?_⟩
          · have := k6.fr b o h
            rw [upd_ne]
            · exact this
            · intro eb; subst eb
              have z := (kn.stp s).fr _ _ h
              rw [hD] at z; cases z
          · rw [upd_ne]
            · exact k6.own p hp
            · intro eb
              have z := (kn.stp s).own p hp
              rw [eb, hD] at z; cases z
        · exact q6
      · have ei : i = xs.length := by omega
        subst ei
        rw [List.drop_length] at q3
        exact .inl ⟨it.stop G3 H g3 k3.gh (fun p hp => k3.own p (hO p hp)), q3 Dl acc G3 H (s.trans s3) (same_back s.hh hD) d3 hd3 racc⟩
    · rw [if_neg hl] at q; exact q.elim) fun _ _ z => z)
theorem w_asgDN {i : Nat} {k : Ke κ} {R : Rp β} {m : Res (List (κ × β))} {mk : List (κ × β) → Res ρ} (he : EvDN K fm te σ G O k R m) (hs : Hs fm G O H) (hm : Wp (m.bind mk) Q fm.xw)
    (kk : ∀ xs p vs G' H', Same G G' → Hs fm G' ((p, .dK vs) :: O) H' → RKs k R K G' vs xs → Wp (mk xs) Q fm.xw → tr D (σ.set i (some (.ref p))) H') : tSeq (tAsg te (gName i)) tr D σ H :=
  he G H (Same.refl _) hs.kn _ (Res.wp_mono (Res.wp_bind hm.out) (fun xs q p vs G2 H2 s hp gp hl r => kk xs p vs G2 H2 s.gg (hs.new s hp gp hl) r (.mk q)) fun _ _ z => z)
end
end Mw

/-! Dicts that are read, texts, values of one of two kinds -/
namespace Mw
open PySem PySem.Spec PyProof.Rows L2
section
variable {α β γ δ ρ κ : Type} [DecidableEq κ] {K : PySem.W.Frag} {fm : Fm} {σ : L2.St} {G G' H H' : Hp} {O : Own}
variable {te ta tb tc td : TE} {R : Rp α} {S : Rp β} {T : Rp γ} {m : Res α} {n : Res β}
/-! ### a dict that is only read -/
def rDk (k : Ke κ) (R : Rp β) : Rp (List (κ × β)) := ⟨fun K G v xs => ∃ l vs, v = .ref l ∧ G l = some (.dK vs) ∧ RKs k R K G vs xs, fun e ⟨l, vs, h1, h2, h3⟩ => ⟨l, vs, h1, e l _ h2, RKs.mono e h3⟩⟩
theorem e_dgetG {k : Ke κ} {m : Res (List (κ × β))} {n : Res κ} (hd : EvE K fm td σ G O (rDk k S) m) (hi : EvE K fm ta σ G O k.rp n) :
    EvE K fm (tDGet td ta) σ G O S (m.bind fun xs => dgetM xs n) := fun G1 H1 e kn Q q =>
  hd G1 H1 e kn _ (Res.wp_mono (Res.wp_bind q) (fun xs q v G2 H2 s r => hi G2 H2 (e.trans s.gg) (kn.stp s) _ (Res.wp_mono (Res.wp_bind q) (fun y q w G3 H3 s' rv => by
    obtain ⟨l, vs, rfl, hl, rr⟩ := r
    rw [k.is.mp rv]
    have g := rr.get y
    cases eg : dget xs y with
    | none => rw [eg] at q; exact q.elim
    | some b =>
      rw [eg] at q g
      obtain ⟨u, hu, ru⟩ := g
      exact ⟨l, u, rfl, .inl ⟨vs, k.enc y, .inl (s'.gh _ _ (s'.gg _ _ hl)), rfl, hu.symm⟩, q u G3 H3 (s.trans s') (S.mono s'.gg ru)⟩) fun _ _ z => z)) fun _ _ z => z)
theorem e_dinG {k : Ke κ} {m : Res (List (κ × β))} {n : Res κ} (hd : EvE K fm td σ G O (rDk k S) m) (hi : EvE K fm ta σ G O k.rp n) :
    EvE K fm (tDIn ta td) σ G O rB (n.bind fun y => m.bind fun xs => .ok (dget xs y).isSome) := fun G1 H1 e kn Q q =>
  hi G1 H1 e kn _ (Res.wp_mono (Res.wp_bind q) (fun y q v G2 H2 s rv => hd G2 H2 (e.trans s.gg) (kn.stp s) _ (Res.wp_mono (Res.wp_bind q) (fun xs q w G3 H3 s' r => by
    obtain ⟨l, vs, rfl, hl, rr⟩ := r
    exact ⟨l, valV vs (k.enc y), rfl, .inl ⟨vs, k.enc y, .inl (s'.gh _ _ hl), k.is.mp rv, rfl⟩, q _ G3 H3 (s.trans s') (by show V.bl _ = V.bl _; rw [rr.isSome])⟩) fun _ _ z => z)) fun _ _ z => z)
theorem e_dninG {k : Ke κ} {m : Res (List (κ × β))} {n : Res κ} (hd : EvE K fm td σ G O (rDk k S) m) (hi : EvE K fm ta σ G O k.rp n) :
    EvE K fm (tDNotIn ta td) σ G O rB (notM (n.bind fun y => m.bind fun xs => .ok (dget xs y).isSome)) := fun G1 H1 e kn Q q =>
  hi G1 H1 e kn _ (Res.wp_mono (Res.wp_bind (Res.wp_bind q)) (fun y q v G2 H2 s rv => hd G2 H2 (e.trans s.gg) (kn.stp s) _ (Res.wp_mono (Res.wp_bind q) (fun xs q w G3 H3 s' r => by
    obtain ⟨l, vs, rfl, hl, rr⟩ := r
    exact ⟨l, valV vs (k.enc y), rfl, .inl ⟨vs, k.enc y, .inl (s'.gh _ _ hl), k.is.mp rv, rfl⟩, q _ G3 H3 (s.trans s') (by show V.bl _ = V.bl _; rw [rr.isSome])⟩) fun _ _ z => z)) fun _ _ z => z)
/-! ### texts -/
def rAddS : R2 := fun x y H Q => ∃ i j, x = L2.V.str i ∧ y = L2.V.str j ∧ i.length + j.length ≤ sizeLine ∧ Q (L2.V.str (i ++ j)) H
def addSM (a b : Res Str) : Res Str := Res.bind2 (fun x y => if x.length + y.length ≤ lim then .ok (x ++ y) else .stuck) a b
theorem e_addS {a b : Res Str} (ha : EvE K fm ta σ G O rS a) (hb : EvE K fm tb σ G O rS b) : EvE K fm (tOp rAddS ta tb) σ G O rS (addSM a b) :=
  e_op ha hb fun G1 H1 x y u v k ru rv Q q => by
    by_cases h : x.length + y.length ≤ lim
    · rw [if_pos h] at q
      exact ⟨x, y, ru, rv, by rw [← lim_eq]; exact h, q _ G1 H1 (Stp.refl k.gh) rfl⟩
    · rw [if_neg h] at q; exact q.elim
def strI (i : Int) : Str := Str.ofString (toString i)
def strIM (a : Res Int) : Res Str := a.bind fun i => if i.natAbs.log2 < 1920 then .ok (strI i) else .stuck
def rStrI : List V → Hp → VK → Prop := fun xs H Q => ∃ i, xs = [L2.V.int i] ∧ i.natAbs.log2 < 1920 ∧ Q (L2.V.str (Str.ofString (toString i))) H
theorem e_strI {a : Res Int} (ha : EvE K fm ta σ G O zI a) : EvE K fm (tCB rStrI (tCons ta tNil)) σ G O rS (strIM a) :=
  e_cb (a_one ha) fun G1 H1 x vs k r Q q => by
    obtain ⟨u, rfl, hx⟩ := r
    cases (show u = .int x from hx)
    by_cases h : x.natAbs.log2 < 1920
    · rw [if_pos h] at q
      exact ⟨x, rfl, h, q _ G1 H1 (Stp.refl k.gh) rfl⟩
    · rw [if_neg h] at q; exact q.elim
def ixSM (a : Res Str) (b : Res Int) : Res Str := Res.bind2 (fun x i => if x.length ≤ lim then (match atI x.cps.toList i with | some c => .ok ⟨#[c]⟩ | none => .stuck) else .stuck) a b
theorem e_ixS {a : Res Str} {b : Res Int} (ha : EvE K fm ta σ G O rS a) (hb : EvE K fm tb σ G O zI b) : EvE K fm (tOp rIxS ta tb) σ G O rS (ixSM a b) :=
  e_op ha hb fun G1 H1 x y u v k ru rv Q q => by
    by_cases h : x.length ≤ lim
    · rw [if_pos h] at q
      cases e : atI x.cps.toList y with
      | none => rw [e] at q; exact q.elim
      | some c =>
        rw [e] at q
        exact ⟨x, y, c, ru, rv, by rw [← lim_eq]; exact h, e, q _ G1 H1 (Stp.refl k.gh) rfl⟩
    · rw [if_neg h] at q; exact q.elim
/-! f'..' -/
def EvJ (K : PySem.W.Frag) (fm : Fm) (ts : List TE) (σ : L2.St) (G : Hp) (O : Own) (f : Str → Res Str) : Prop :=
  ∀ acc G1 H1, Same G G1 → Kn fm G1 O H1 → ∀ Q : Str → Hp → Prop, (f acc).wp (fun z => ∀ G2 H2, Stp G1 H1 G2 H2 → Q z H2) fm.xw → tJs ts acc σ H1 Q
theorem j_nil : EvJ K fm [] σ G O fun acc => .ok acc := fun acc G1 H1 e k Q q => q G1 H1 (Stp.refl k.gh)
theorem j_cons {a : Res Str} {ts : List TE} {f : Str → Res Str} (ha : EvE K fm ta σ G O rS a) (ht : EvJ K fm ts σ G O f) : EvJ K fm (ta :: ts) σ G O fun acc => a.bind fun y => if (acc ++ y).length ≤ lim then f (acc ++ y) else .stuck := fun acc G1 H1 e k Q q =>
  ha G1 H1 e k _ (Res.wp_mono (Res.wp_bind q) (fun y q v G2 H2 s r => by
    by_cases h : (acc ++ y).length ≤ lim
    · rw [if_pos h] at q
      exact ⟨y, r, by rw [← lim_eq]; exact h, ht (acc ++ y) G2 H2 (e.trans s.gg) (k.stp s) Q (Res.wp_mono q (fun z q G3 H3 s' => q G3 H3 (s.trans s')) fun _ _ z => z)⟩
    · rw [if_neg h] at q; exact q.elim) fun _ _ z => z)
def tJoin (ts : List TE) : TE := fun σ H Q => tJs ts Str.empty σ H fun out H1 => Q (L2.V.str out) H1
theorem e_joined {ts : List TE} {f : Str → Res Str} (h : EvJ K fm ts σ G O f) : EvE K fm (tJoin ts) σ G O rS (f Str.empty) := fun G1 H1 e k Q q =>
  h Str.empty G1 H1 e k _ (Res.wp_mono q (fun z q G2 H2 s => q _ G2 H2 s rfl) fun _ _ z => z)
theorem e_fmtI {a : Res Int} (ha : EvE K fm ta σ G O zI a) : EvE K fm (tFmt ta) σ G O rS (strIM a) := fun G1 H1 e k Q q =>
  ha G1 H1 e k _ (Res.wp_mono (Res.wp_bind q) (fun x q v G2 H2 s r => by
    cases (show v = .int x from r)
    by_cases h : x.natAbs.log2 < 1920
    · rw [if_pos h] at q
      exact .inr ⟨x, rfl, h, q _ G2 H2 s rfl⟩
    · rw [if_neg h] at q; exact q.elim) fun _ _ z => z)
/-! min -/
def rMn2 : List V → Hp → VK → Prop := fun xs H Q => ∃ i j, xs = [L2.V.int i, L2.V.int j] ∧ Q (L2.V.int (if j < i then j else i)) H
def min2M (a b : Res Int) : Res Int := (pairM a b).bind fun p => .ok (if p.2 < p.1 then p.2 else p.1)
theorem e_min2 {a b : Res Int} (ha : EvE K fm ta σ G O zI a) (hb : EvE K fm tb σ G O zI b) : EvE K fm (tCB rMn2 (tCons ta (tCons tb tNil))) σ G O zI (min2M a b) :=
  e_cb (a_cons ha (a_one hb)) fun G1 H1 x vs k r Q q => by
    obtain ⟨v, ws, rfl, hx, u, rfl, hy⟩ := r
    cases (show v = .int x.1 from hx); cases (show u = .int x.2 from hy)
    exact ⟨_, _, rfl, q _ G1 H1 (Stp.refl k.gh) rfl⟩
theorem nuMin2_int (a b : Int) : nuMin2 (.int a) (.int b) = some (.int (if b < a then b else a)) := by
  by_cases h : b < a
  · rw [if_pos h]
    have : nuLt (.int b) (.int a) = some true := by
      have : nuLt (.int b) (.int a) = some (decide (b < a)) := rfl
      rw [this, decide_eq_true h]
    unfold nuMin2; rw [this]; rfl
  · rw [if_neg h]
    have : nuLt (.int b) (.int a) = some false := by
      have : nuLt (.int b) (.int a) = some (decide (b < a)) := rfl
      rw [this, decide_eq_false h]
    unfold nuMin2; rw [this]; rfl
def mn2 (a b : Int) : Int := if b < a then b else a
def min3M (a b c : Res Int) : Res Int := (pairM a (pairM b c)).bind fun p => .ok (mn2 (mn2 p.1 p.2.1) p.2.2)
theorem e_min3 {a b c : Res Int} (ha : EvE K fm ta σ G O zI a) (hb : EvE K fm tb σ G O zI b) (hc : EvE K fm tc σ G O zI c) : EvE K fm (tCB (rNuC3 nuMin3) (tCons ta (tCons tb (tCons tc tNil)))) σ G O zI (min3M a b c) :=
  e_cb (a_cons ha (a_cons hb (a_one hc))) fun G1 H1 x vs k r Q q => by
    obtain ⟨v, ws, rfl, hx, u, ws2, rfl, hy, w, rfl, hz⟩ := r
    cases (show v = .int x.1 from hx); cases (show u = .int x.2.1 from hy); cases (show w = .int x.2.2 from hz)
    refine ⟨_, _, _, _, rfl, ?_, q (.int (mn2 (mn2 x.1 x.2.1) x.2.2)) G1 H1 (Stp.refl k.gh) rfl⟩
    unfold nuMin3
    rw [nuMin2_int]
    show nuMin2 _ _ = _
    rw [nuMin2_int]
    rfl
/-! ### a value of one of two kinds -/
def rU (A : Rp α) (B : Rp β) : Rp (Sum α β) := ⟨fun K G v x => match x with | .inl a => A.r K G v a | .inr b => B.r K G v b, fun {K G G' v x} e h => by
  cases x with
  | inl a => exact A.mono e h
  | inr b => exact B.mono e h⟩
def inlM {α β : Type} (m : Res α) : Res (Sum α β) := m.bind fun a => .ok (.inl a)
def inrM {α β : Type} (m : Res β) : Res (Sum α β) := m.bind fun a => .ok (.inr a)
def getlM {α β : Type} (m : Res (Sum α β)) : Res α := m.bind fun x => match x with | .inl a => .ok a | .inr _ => .stuck
def getrM {α β : Type} (m : Res (Sum α β)) : Res β := m.bind fun x => match x with | .inr a => .ok a | .inl _ => .stuck
theorem e_inl (h : EvE K fm te σ G O R m) : EvE K fm te σ G O (rU R S) (inlM m) := fun G1 H1 e k Q q =>
  h G1 H1 e k Q (Res.wp_mono (Res.wp_bind q) (fun x f v G2 H2 s r => f v G2 H2 s r) fun _ _ z => z)
theorem e_inr (h : EvE K fm te σ G O S n) : EvE K fm te σ G O (rU R S) (inrM n) := fun G1 H1 e k Q q =>
  h G1 H1 e k Q (Res.wp_mono (Res.wp_bind q) (fun x f v G2 H2 s r => f v G2 H2 s r) fun _ _ z => z)
theorem e_getl {m : Res (Sum α β)} (h : EvE K fm te σ G O (rU R S) m) : EvE K fm te σ G O R (getlM m) := fun G1 H1 e k Q q =>
  h G1 H1 e k Q (Res.wp_mono (Res.wp_bind q) (fun x f v G2 H2 s r => by
    cases x with
    | inl a => exact (show ∀ v G2 H2, Stp G1 H1 G2 H2 → R.r K G2 v a → Q v H2 from f) v G2 H2 s r
    | inr b => exact f.elim) fun _ _ z => z)
theorem e_getr {m : Res (Sum α β)} (h : EvE K fm te σ G O (rU R S) m) : EvE K fm te σ G O S (getrM m) := fun G1 H1 e k Q q =>
  h G1 H1 e k Q (Res.wp_mono (Res.wp_bind q) (fun x f v G2 H2 s r => by
    cases x with
    | inl a => exact f.elim
    | inr b => exact (show ∀ v G2 H2, Stp G1 H1 G2 H2 → S.r K G2 v b → Q v H2 from f) v G2 H2 s r) fun _ _ z => z)
end
end Mw

/-! tuples of which only the length counts -/
namespace Mw
open PySem PySem.Spec PyProof.Rows L2
section
variable {α β γ δ : Type} {K : PySem.W.Frag} {fm : Fm} {σ : L2.St} {G G' H H' : Hp} {O : Own} {te ta tb : TE} {R : Rp α} {S : Rp β} {T : Rp γ}
/-! ### == of nested data that may hold texts: both sides are to be good ones -/
structure Qe {α : Type} [DecidableEq α] (R : Rp α) where
  dat : α → PyData
  ok : α → Bool
  dp : ∀ {K G v x}, R.r K G v x → Dp K G v (dat x)
  lay : ∀ x, ok x = true → (dat x).canLay0 = true
  dep : Nat
  dle : ∀ x, (dat x).depth ≤ dep
  eqv : ∀ x y, PyData.eqv (dat x) (dat y) = decide (x = y)
structure Qes {α : Type} [DecidableEq α] (R : Rps α) where
  dat : α → List PyData
  ok : α → Bool
  dp : ∀ {K G v x}, R.r K G v x → DpAll K G v (dat x)
  lay : ∀ x, ok x = true → PyData.canLayAll0 (dat x) = true
  dep : Nat
  dle : ∀ x, PyData.depthAll (dat x) ≤ dep
  eqv : ∀ x y, PyData.eqvAll (dat x) (dat y) = decide (x = y)
@[reducible] def qeD [DecidableEq α] (q : Qd R) : Qe R := ⟨q.dat, fun _ => true, q.dp, fun x _ => q.lay x, q.dep, q.dle, q.eqv⟩
@[reducible] def qeS : Qe rS := ⟨.str, PyData.strOk, fun h => by cases h; exact .str _, fun x h => by simpa only [PyData.canLay0] using h, 0, fun _ => Nat.le_refl _, fun x y => by simp only [PyData.eqv]; rw [Bool.beq_eq_decide_eq]⟩
theorem canLayAll_mapE [DecidableEq α] (q : Qe R) : ∀ xs : List α, xs.all q.ok = true → PyData.canLayAll0 (xs.map q.dat) = true
  | [], _ => rfl
  | x :: xs, h => by
    rw [List.all_cons, Bool.and_eq_true] at h
    rw [List.map_cons, PyData.canLayAll0, q.lay x h.1, canLayAll_mapE q xs h.2]; rfl
theorem depthAll_mapE [DecidableEq α] (q : Qe R) : ∀ xs : List α, PyData.depthAll (xs.map q.dat) ≤ q.dep
  | [] => Nat.zero_le _
  | x :: xs => by rw [List.map_cons, PyData.depthAll]; exact Nat.max_le.mpr ⟨q.dle x, depthAll_mapE q xs⟩
theorem eqvAll_mapE [DecidableEq α] (q : Qe R) : ∀ xs ys : List α, PyData.eqvAll (xs.map q.dat) (ys.map q.dat) = decide (xs = ys)
  | [], [] => by simp only [List.map_nil, PyData.eqvAll, decide_true]
  | [], _ :: _ => by simp [PyData.eqvAll]
  | _ :: _, [] => by simp [PyData.eqvAll]
  | x :: xs, y :: ys => by
    rw [List.map_cons, List.map_cons, PyData.eqvAll, q.eqv x y, eqvAll_mapE q xs ys, ← Bool.decide_and]
    exact decide_eq_decide.mpr (by rw [List.cons.injEq])
theorem dpAll_mapE [DecidableEq α] (q : Qe R) {vs : List V} {xs : List α} (h : RLs R K G vs xs) : DpAll K G vs (xs.map q.dat) := by
  induction h with
  | nil => exact .nil
  | cons r t ih => exact .cons (q.dp r) ih
@[reducible] def qeT [DecidableEq α] (q : Qe R) : Qe (rT R) where
  dat xs := .tuple (xs.map q.dat)
  ok xs := xs.all q.ok
  dp {K G v x} h := by
    obtain ⟨p, vs, e, h, r⟩ := h
    subst e
    exact .tup h (dpAll_mapE q r)
  lay xs h := by rw [PyData.canLay0]; exact canLayAll_mapE q xs h
  dep := q.dep + 1
  dle xs := by rw [PyData.depth]; exact Nat.succ_le_succ (depthAll_mapE q xs)
  eqv x y := by rw [PyData.eqv]; exact eqvAll_mapE q x y
@[reducible] def qe1 [DecidableEq α] (q : Qe R) : Qes (rs1 R) where
  dat x := [q.dat x]
  ok x := q.ok x
  dp {K G v x} h := by
    obtain ⟨u, e, h⟩ := h
    subst e
    exact .cons (q.dp h) .nil
  lay x h := by simp only [PyData.canLayAll0, q.lay x h, Bool.and_self]
  dep := q.dep
  dle x := by simp only [PyData.depthAll]; exact Nat.max_le.mpr ⟨q.dle x, Nat.zero_le _⟩
  eqv x y := by simp only [PyData.eqvAll, q.eqv, Bool.and_true]
@[reducible] def qeC [DecidableEq α] [DecidableEq β] {S : Rps β} (q : Qe R) (q' : Qes S) : Qes (rsC R S) where
  dat x := q.dat x.1 :: q'.dat x.2
  ok x := q.ok x.1 && q'.ok x.2
  dp {K G v x} h := by
    obtain ⟨u, r, e, h, t⟩ := h
    subst e
    exact .cons (q.dp h) (q'.dp t)
  lay x h := by
    rw [Bool.and_eq_true] at h
    simp only [PyData.canLayAll0, q.lay _ h.1, q'.lay _ h.2, Bool.and_self]
  dep := max q.dep q'.dep
  dle x := by
    simp only [PyData.depthAll]
    exact Nat.max_le.mpr ⟨Nat.le_trans (q.dle x.1) (Nat.le_max_left _ _), Nat.le_trans (q'.dle x.2) (Nat.le_max_right _ _)⟩
  eqv x y := by
    simp only [PyData.eqvAll, q.eqv, q'.eqv]
    rw [← Bool.decide_and]
    exact decide_eq_decide.mpr ⟨fun e => Prod.ext e.1 e.2, fun e => by rw [e]; exact ⟨rfl, rfl⟩⟩
@[reducible] def qeP [DecidableEq α] {S : Rps α} (q : Qes S) : Qe (rP S) where
  dat x := .tuple (q.dat x)
  ok x := q.ok x
  dp {K G v x} h := by
    obtain ⟨p, vs, e, h, r⟩ := h
    subst e
    exact .tup h (q.dp r)
  lay x h := by rw [PyData.canLay0]; exact q.lay x h
  dep := q.dep + 1
  dle x := by rw [PyData.depth]; exact Nat.succ_le_succ (q.dle x)
  eqv x y := by rw [PyData.eqv]; exact q.eqv x y
theorem Qe.shaped [DecidableEq α] (q : Qe R) (h : q.dep ≤ 64) {x : α} (hx : q.ok x = true) : SeqAt.shaped (q.dat x) = true := by
  simp only [SeqAt.shaped, q.lay x hx, Bool.true_and]
  exact decide_eq_true (Nat.le_trans (q.dle x) h)
def eqQM {α : Type} [DecidableEq α] (ok : α → Bool) (a b : Res α) : Res Bool := Res.bind2 (fun x y => if (ok x && ok y) = true then .ok (decide (x = y)) else .stuck) a b
def neQM {α : Type} [DecidableEq α] (ok : α → Bool) (a b : Res α) : Res Bool := Res.bind2 (fun x y => if (ok x && ok y) = true then .ok (!decide (x = y)) else .stuck) a b
theorem e_eqQ [DecidableEq α] (q : Qe R) (hd : q.dep ≤ 64) {m n : Res α} (ha : EvE K fm ta σ G O R m) (hb : EvE K fm tb σ G O R n) : EvE K fm (tOp (rEqD K) ta tb) σ G O rB (eqQM q.ok m n) :=
  e_op ha hb fun G1 H1 x y u v k ru rv Q h => by
    by_cases c : (q.ok x && q.ok y) = true
    · rw [if_pos c] at h
      rw [Bool.and_eq_true] at c
      exact ⟨_, _, Dp.same k.gh (q.dp ru), Dp.same k.gh (q.dp rv), q.shaped hd c.1, q.shaped hd c.2, h _ G1 H1 (Stp.refl k.gh) (by show V.bl _ = V.bl _; rw [q.eqv])⟩
    · rw [if_neg c] at h; exact h.elim
theorem e_neQ [DecidableEq α] (q : Qe R) (hd : q.dep ≤ 64) {m n : Res α} (ha : EvE K fm ta σ G O R m) (hb : EvE K fm tb σ G O R n) : EvE K fm (tOp (rNeD K) ta tb) σ G O rB (neQM q.ok m n) :=
  e_op ha hb fun G1 H1 x y u v k ru rv Q h => by
    by_cases c : (q.ok x && q.ok y) = true
    · rw [if_pos c] at h
      rw [Bool.and_eq_true] at c
      exact ⟨_, _, Dp.same k.gh (q.dp ru), Dp.same k.gh (q.dp rv), q.shaped hd c.1, q.shaped hd c.2, h _ G1 H1 (Stp.refl k.gh) (by show V.bl _ = V.bl _; rw [q.eqv])⟩
    · rw [if_neg c] at h; exact h.elim
/-! lending a list where what comes out is no list -/
theorem lend_back {l : Addr} {vs : List V} {G1 H1 G2 H2 : Hp} (hl : H1 l = some (.lst vs)) (k : Same G1 H1) (s : Stp (upd G1 l (.lst vs)) H1 G2 H2) : Stp G1 H1 (fun b => if b = l then G1 b else G2 b) H2 ∧ KpL G2 (fun b => if b = l then G1 b else G2 b) := by
  refine ⟨⟨s.hh, fun b o hb => ?_, fun b o hb => ?_, fun b o hb => ?_⟩, fun b o hb hn => ?_⟩
  · by_cases e : b = l
    · show (if b = l then G1 b else G2 b) = _
      rw [if_pos e]; exact hb
    · show (if b = l then G1 b else G2 b) = _
      rw [if_neg e]; exact s.gg b o (by rw [upd_ne e]; exact hb)
  · by_cases e : b = l
    · rw [if_pos e] at hb; exact s.hh _ _ (k _ _ hb)
    · rw [if_neg e] at hb; exact s.gh _ _ hb
  · by_cases e : b = l
    · show (if b = l then G1 b else G2 b) = _
      rw [if_pos e]
    · show (if b = l then G1 b else G2 b) = _
      rw [if_neg e, s.old b o hb, upd_ne e]
  · have e : b ≠ l := fun q => by
      rw [q, s.gg l (.lst vs) upd_same] at hb
      cases hb
      exact hn vs rfl
    show (if b = l then G1 b else G2 b) = _
    rw [if_neg e]; exact hb
theorem e_lendN {l : Addr} {o : HO} {m : Res α} (sl : Nl R) (ho : ∃ vs, o = .lst vs) (hl : (l, o) ∈ O) (h : EvE K fm te σ (upd G l o) O R m) : EvE K fm te σ G O R m := fun G1 H1 e k Q q => by
  obtain ⟨vs, rfl⟩ := ho
  exact h (upd G1 l (.lst vs)) H1 (same_upd e) (lend_kn k hl) _ (Res.wp_mono q (fun x f v G2 H2 s r => by
    obtain ⟨s', kp⟩ := lend_back (k.own _ hl) k.gh s
    exact f v _ H2 s' (sl _ _ _ _ _ kp r)) fun _ _ z => z)
theorem n_lendN {l : Addr} {o : HO} {m : Res (List α)} (sl : Nl R) (ho : ∃ vs, o = .lst vs) (hl : (l, o) ∈ O) (h : EvN K fm te σ (upd G l o) O R m) : EvN K fm te σ G O R m := fun G1 H1 e k Q q => by
  obtain ⟨vs, rfl⟩ := ho
  exact h (upd G1 l (.lst vs)) H1 (same_upd e) (lend_kn k hl) _ (Res.wp_mono q (fun x f p ws G2 H2 s hp gp h2 r => by
    obtain ⟨s', kp⟩ := lend_back (k.own _ hl) k.gh s
    refine f p ws _ H2 s' hp ?_ h2 (Paired.mapP r fun _ _ q => sl _ _ _ _ _ kp q)
    have : p ≠ l := fun q => by rw [q, k.own _ hl] at hp; cases hp
    show (if p = l then G1 p else G2 p) = none
    rw [if_neg this]; exact gp) fun _ _ z => z)
def rTl : Rp Int := ⟨fun K G v n => ∃ p vs, v = .ref p ∧ SqT K G p vs ∧ n = (vs.length : Int), fun e ⟨p, vs, a, b, c⟩ => ⟨p, vs, a, same_t e b, c⟩⟩
theorem ty_Tl : TyIs K rTl fun _ => "tuple" := fun G H v x e ⟨p, vs, ev, h, _⟩ => by subst ev; exact rd_tyT (same_t e h)
theorem e_lenTl {m : Res Int} (h : EvE K fm te σ G O rTl m) : EvE K fm (tCB (Mw.rLen K) (tCons te tNil)) σ G O zI (m.bind .ok) :=
  e_cb (a_one h) fun G1 H1 x vs k ⟨v, ev, r⟩ Q q => by
    subst ev
    obtain ⟨p, ws, rfl, hq, rfl⟩ := r
    exact ⟨_, ws.length, rfl, .inr ⟨ws, same_t k.gh hq, rfl⟩, q _ G1 H1 (Stp.refl k.gh) rfl⟩
def len3 {α β γ : Type} (a : List α × List β × List γ) : List Int := [(a.1.length : Int), (a.2.1.length : Int), (a.2.2.length : Int)]
theorem e_P3L {m : Res (List α × List β × List γ)} (h : EvE K fm te σ G O (rP (rsC (rT R) (rsC (rT S) (rs1 (rT T))))) m) : EvE K fm te σ G O (rT rTl) (m.bind fun a => .ok (len3 a)) := fun G1 H1 e k Q q =>
  h G1 H1 e k _ (Res.wp_mono (Res.wp_bind q) (fun x q v G2 H2 s r => by
    obtain ⟨p, vs, rfl, hq, v1, ws, rfl, h1, v2, ws2, rfl, h2, v3, rfl, h3⟩ := r
    obtain ⟨p1, u1, rfl, q1, r1⟩ := h1
    obtain ⟨p2, u2, rfl, q2, r2⟩ := h2
    obtain ⟨p3, u3, rfl, q3, r3⟩ := h3
    exact q _ G2 H2 s ⟨p, _, rfl, hq, .cons ⟨p1, u1, rfl, q1, by rw [Paired.length r1]⟩ (.cons ⟨p2, u2, rfl, q2, by rw [Paired.length r2]⟩ (.cons ⟨p3, u3, rfl, q3, by rw [Paired.length r3]⟩ .nil))⟩) fun _ _ z => z)
/-- xs.reverse() -/
theorem w_reverse {ρ : Type} {i : Nat} (j : Nat) {l : Addr} {vs : List V} {xs : List α} {mk : List α → Res ρ} {D : Ends} {tr : TS} {Q : ρ → Prop} (hx : σ[i]? = some (some (.ref l))) (hj : O[j]? = some (l, .lst vs)) (hr : RLs R K G vs xs) (hs : Hs fm G O H) (hm : Wp ((Res.ok xs.reverse).bind mk) Q fm.xw)
    (kk : ∀ ys ws G' H', Same G G' → Hs fm G' (O.set j (l, .lst ws)) H' → RLs R K G' ws ys → Wp (mk ys) Q fm.xw → tr D σ H') : tSeq (tDrop (tBM0 K "list" rReverse (tVar i))) tr D σ H :=
  ⟨_, hx, .inl ⟨rfl, vs, SqL.of (hs.at j hj).1⟩, l, vs, rfl, rfl, (hs.at j hj).1, kk xs.reverse vs.reverse G _ (Same.refl _) (hs.set j hj) (paired_rev hr) hm⟩
end
end Mw

/-! plain lemmas on the mirrors' combinators -/
namespace Mw
open PySem L2
section
variable {α β γ S ρ : Type}
/-- an item; out of range: anything -/
def gx [Inhabited α] (xs : List α) (i : Int) : α := (xs[i.toNat]?).getD default
theorem gx_nat [Inhabited α] {xs : List α} {i : Nat} (h : i < xs.length) : gx xs (i : Int) = xs[i] := by
  simp [gx, h]
theorem gx_mem [Inhabited α] {xs : List α} {i : Int} (h0 : 0 ≤ i) (h1 : i < xs.length) : gx xs i ∈ xs := by
  obtain ⟨n, rfl⟩ := Int.eq_ofNat_of_zero_le h0
  have h : n < xs.length := by omega
  rw [gx_nat h]; exact List.getElem_mem h
theorem atI_gx [Inhabited α] {xs : List α} {i : Int} (h0 : 0 ≤ i) (h1 : i < xs.length) : atI xs i = some (gx xs i) := by
  obtain ⟨n, rfl⟩ := Int.eq_ofNat_of_zero_le h0
  have h : n < xs.length := by omega
  rw [gx_nat h]
  unfold atI ixN
  rw [if_pos h0, if_pos h1]
  simp [h]
theorem idxM_gx [Inhabited α] {xs : List α} {i : Int} (h0 : 0 ≤ i) (h1 : i < xs.length) : idxM (.ok xs) (.ok i) = .ok (gx xs i) := by
  rw [idxM_ok, atI_gx h0 h1]; rfl
theorem gx_ext [Inhabited α] {xs ys : List α} (hl : xs.length = ys.length) (h : ∀ i : Nat, i < xs.length → gx xs i = gx ys i) : xs = ys := by
  apply List.ext_getElem hl
  intro i h1 h2
  have := h i h1
  rwa [gx_nat h1, gx_nat h2] at this
theorem gx_set [Inhabited α] {xs : List α} {i : Nat} {j : Int} {y : α} (hj : 0 ≤ j) (hi : i < xs.length) : gx (xs.set i y) j = if (i : Int) = j then y else gx xs j := by
  obtain ⟨n, rfl⟩ := Int.eq_ofNat_of_zero_le hj
  unfold gx
  simp only [Int.toNat_natCast]
  rw [List.getElem?_set]
  by_cases e : i = n
  · subst e; simp [hi]
  · rw [if_neg e, if_neg (by omega)]
theorem gx_map [Inhabited α] [Inhabited β] {xs : List α} {f : α → β} {i : Int} (h0 : 0 ≤ i) (h1 : i < xs.length) : gx (xs.map f) i = f (gx xs i) := by
  obtain ⟨n, rfl⟩ := Int.eq_ofNat_of_zero_le h0
  have h : n < xs.length := by omega
  rw [gx_nat (by simpa using h), gx_nat h, List.getElem_map]
theorem gx_rgL {lo : Int} {n : Nat} {i : Int} (h0 : 0 ≤ i) (h1 : i < n) : gx (rgL lo n) i = lo + i := by
  obtain ⟨k, rfl⟩ := Int.eq_ofNat_of_zero_le h0
  rw [gx_nat (by rw [rgL_length]; omega)]
  simp [rgL]
theorem lim_big : 1000000 < lim := by rw [lim_eq]; decide +kernel
theorem mem_rgL {lo x : Int} {n : Nat} : x ∈ rgL lo n ↔ lo ≤ x ∧ x < lo + n := by
  unfold rgL
  rw [List.mem_map]
  constructor
  · rintro ⟨i, hi, rfl⟩
    have := List.mem_range.mp hi
    omega
  · rintro ⟨h1, h2⟩
    exact ⟨(x - lo).toNat, List.mem_range.mpr (by omega), by omega⟩
theorem rng1_ok {n : Nat} (h : n < 1000000) : rng1M (.ok (n : Int)) = .ok (rgL 0 n) := by
  have : inR (n : Int) = true := by
    unfold inR
    rw [Bool.and_eq_true, decide_eq_true_eq, decide_eq_true_eq]
    have a : (-(2 ^ 62) : Int) ≤ 0 := by decide
    have b : (1000000 : Int) < 2 ^ 62 := by decide
    exact ⟨Int.le_trans a (by omega), Int.lt_trans (by omega) b⟩
  unfold rng1M
  rw [Res.bind_ok, if_pos this, Int.toNat_natCast]
theorem lcM_ok {c : α → Res Bool} {f : α → Res β} {p : α → Bool} {g : α → β} : ∀ {xs : List α}, (∀ x ∈ xs, c x = .ok (p x)) → (∀ x ∈ xs, p x = true → f x = .ok (g x)) → lcM c f xs = .ok ((xs.filter p).map g)
  | [], _, _ => rfl
  | x :: xs, h, hf => by
    have ih := lcM_ok (xs := xs) (fun y hy => h y (List.mem_cons_of_mem _ hy)) (fun y hy => hf y (List.mem_cons_of_mem _ hy))
    unfold lcM
    rw [h x (List.mem_cons_self ..), Res.nox_ok, Res.bind_ok]
    cases e : p x
    · rw [if_neg (by simp), ih, List.filter_cons_of_neg (by simp [e])]
    · rw [if_pos rfl, hf x (List.mem_cons_self ..) e, Res.nox_ok, Res.bind_ok, ih, List.filter_cons_of_pos e]; rfl
theorem lcB_ok {c : α → Res Bool} {f : α → Res β} (p : α → Bool) (g : α → β) {xs : List α} (hl : xs.length < 1000000) (h : ∀ x ∈ xs, c x = .ok (p x)) (hf : ∀ x ∈ xs, p x = true → f x = .ok (g x)) : lcB c f (.ok xs) = .ok ((xs.filter p).map g) := by
  show (if xs.length < lim then lcM c f xs else .stuck) = _
  rw [if_pos (Nat.lt_trans hl (lim_big)), lcM_ok h hf]
theorem lcB_map {f : α → Res β} (g : α → β) {xs : List α} (hl : xs.length < 1000000) (hf : ∀ x ∈ xs, f x = .ok (g x)) : lcB (fun _ => .ok true) f (.ok xs) = .ok (xs.map g) := by
  rw [lcB_ok (fun _ => true) g hl (fun _ _ => rfl) (fun x h _ => hf x h), List.filter_eq_self.mpr (fun _ _ => rfl)]
theorem lcB_filter {c : α → Res Bool} (p : α → Bool) {xs : List α} (hl : xs.length < 1000000) (h : ∀ x ∈ xs, c x = .ok (p x)) : lcB c (fun x => .ok x) (.ok xs) = .ok (xs.filter p) := by
  have := lcB_ok (f := fun x => .ok x) p (fun x => x) hl h (fun _ _ _ => rfl)
  rw [this, List.map_id']
theorem forM_ok {f : α → S → Res S} (P : List α → S → Prop) : ∀ {xs : List α} {s : S}, P xs s → (∀ x ys s, x ∈ xs → P (x :: ys) s → ∃ s', f x s = .ok s' ∧ P ys s') → ∃ s', forM f xs s = .ok s' ∧ P [] s'
  | [], s, h, _ => ⟨s, rfl, h⟩
  | x :: xs, s, h, k => by
    obtain ⟨s', e, h'⟩ := k x xs s (List.mem_cons_self ..) h
    unfold forM
    rw [e, Res.bind_ok]
    exact forM_ok P h' fun y ys s hy => k y ys s (List.mem_cons_of_mem _ hy)
theorem forM_fold {f : α → S → Res S} (g : S → α → S) (P : S → Prop) : ∀ {xs : List α} {s : S}, P s → (∀ x s, x ∈ xs → P s → f x s = .ok (g s x) ∧ P (g s x)) → forM f xs s = .ok (xs.foldl g s) ∧ P (xs.foldl g s)
  | [], s, h, _ => ⟨rfl, h⟩
  | x :: xs, s, h, k => by
    obtain ⟨e, h'⟩ := k x s (List.mem_cons_self ..) h
    unfold forM
    rw [e, Res.bind_ok]
    exact forM_fold g P h' fun y s hy => k y s (List.mem_cons_of_mem _ hy)
theorem rgL_cons (lo : Int) (n : Nat) : rgL lo (n + 1) = lo :: rgL (lo + 1) n := by
  unfold rgL
  rw [List.range_succ_eq_map, List.map_cons, List.map_map]
  congr 1
  · simp
  · apply List.map_congr_left
    intro i _
    simp only [Function.comp, Nat.succ_eq_add_one]
    omega
theorem rgL_succ (lo : Int) (n : Nat) : rgL lo (n + 1) = rgL lo n ++ [lo + (n : Int)] := by
  unfold rgL
  rw [List.range_succ, List.map_append]; rfl
/-- a loop over a range -/
theorem forM_rng {f : Int → S → Res S} (P : Nat → S → Prop) {n : Nat} {s : S} (h0 : P 0 s) (lo : Int) (h : ∀ k s, k < n → P k s → ∃ s', f (lo + (k : Int)) s = .ok s' ∧ P (k + 1) s') : ∃ s', forM f (rgL lo n) s = .ok s' ∧ P n s' := by
  have gen : ∀ (r k : Nat) (s : S), k + r = n → P k s → ∃ s', forM f (rgL (lo + (k : Int)) r) s = .ok s' ∧ P n s' := by
    intro r
    induction r with
    | zero => intro k s e hp; exact ⟨s, rfl, by rw [← e]; exact hp⟩
    | succ r ih =>
      intro k s e hp
      obtain ⟨s', e1, h1⟩ := h k s (by omega) hp
      obtain ⟨s2, e2, h2⟩ := ih (k + 1) s' (by omega) h1
      refine ⟨s2, ?_, h2⟩
      rw [rgL_cons]
      show (f (lo + (k : Int)) s).bind _ = _
      rw [e1, Res.bind_ok]
      rw [show lo + (k : Int) + 1 = lo + ((k + 1 : Nat) : Int) by omega]
      exact e2
  obtain ⟨s', e, h⟩ := gen n 0 s (by omega) h0
  exact ⟨s', by simpa using e, h⟩
/-- a loop that appends -/
theorem forM_app {f : α → List β → Res (List β)} (g : α → β) {xs : List α} (hl : xs.length < 1000000) (h : ∀ x acc, x ∈ xs → f x acc = appM acc (.ok (g x)) .ok) : forM f xs [] = .ok (xs.map g) := by
  have gen : ∀ (ys : List α) (acc : List β), (∀ x ∈ ys, x ∈ xs) → acc.length + ys.length ≤ xs.length → forM f ys acc = .ok (acc ++ ys.map g) := by
    intro ys
    induction ys with
    | nil => intro acc _ _; simp [forM]
    | cons y ys ih =>
      intro acc hm hl2
      unfold forM
      simp only [List.length_cons] at hl2
      rw [h y acc (hm y (List.mem_cons_self ..)), appM_ok _ _ _ (Nat.lt_trans (by omega : acc.length < 1000000) lim_big), Res.bind_ok, ih _ (fun x hx => hm x (List.mem_cons_of_mem _ hx)) (by simp; omega)]
      simp
  have := gen xs [] (fun _ h => h) (by simp)
  simpa using this
/-- a loop that only looks whether to leave with False -/
theorem forB_all {f : α → Unit → Res (Tn Unit Bool)} (p : α → Bool) : ∀ {xs : List α}, (∀ x ∈ xs, f x () = .ok (if p x = true then .nx () else .rt false)) → forB f xs () = .ok (if xs.all p = true then .nx () else .rt false)
  | [], _ => rfl
  | x :: xs, h => by
    have ih := forB_all p (xs := xs) fun y hy => h y (List.mem_cons_of_mem _ hy)
    unfold forB
    rw [h x (List.mem_cons_self ..), Res.bind_ok]
    cases e : p x
    · rw [if_neg (by simp)]
      rw [if_neg (by rw [List.all_cons, e]; simp)]
    · rw [if_pos rfl]
      show forB f xs () = _
      rw [ih, List.all_cons, e, Bool.true_and]
theorem shl1_ok {d : Nat} (h : d ≤ 1000) : shlM (.ok 1) (.ok (d : Int)) = .ok (((2 ^ d : Nat) : Nat) : Int) := by
  have : cpow 1 (d : Int) = true := by
    unfold cpow
    simp only [Bool.and_eq_true, decide_eq_true_eq]
    exact ⟨⟨by omega, by omega⟩, by decide⟩
  show (if cpow 1 (d : Int) = true then Res.ok ((1 : Int) * 2 ^ (d : Int).toNat) else .stuck) = _
  rw [if_pos this, Int.toNat_natCast, Int.one_mul]
  simp
theorem shl_ok {x : Int} {d : Nat} (h : d ≤ 1000) (hx : x.natAbs < 2 ^ 64) : shlM (.ok x) (.ok (d : Int)) = .ok (x * ((2 ^ d : Nat) : Int)) := by
  have : cpow x (d : Int) = true := by
    unfold cpow
    simp only [Bool.and_eq_true, decide_eq_true_eq]
    exact ⟨⟨by omega, by omega⟩, hx⟩
  show (if cpow x (d : Int) = true then Res.ok (x * 2 ^ (d : Int).toNat) else .stuck) = _
  rw [if_pos this, Int.toNat_natCast]
  simp
theorem mul_ok {x y : Int} (h : x.natAbs < 2 ^ 60 ∨ y.natAbs < 2 ^ 60) : mulM (.ok x) (.ok y) = .ok (x * y) := by
  show (if inB x || inB y then Res.ok (x * y) else .stuck) = _
  have : (inB x || inB y) = true := by
    simp only [inB, Bool.or_eq_true, Bool.and_eq_true, decide_eq_true_eq]
    rcases h with h | h
    · exact .inl ⟨by omega, by omega⟩
    · exact .inr ⟨by omega, by omega⟩
  rw [if_pos this]
theorem mod_ok {x y : Int} (h : 0 < y) : modM (.ok x) (.ok y) = .ok (x % y) := by
  show (if decide (0 < y) = true then Res.ok (x % y) else .stuck) = _
  rw [if_pos (by simpa using h)]
theorem fdiv_ok {x y : Int} (h : 0 < y) (h2 : y < 1073741824) : fdivM (.ok x) (.ok y) = .ok (x / y) := by
  show (if (decide (0 < y) && decide (y < 1073741824)) = true then Res.ok (x / y) else .stuck) = _
  rw [if_pos (by simp [h, h2])]
@[simp] theorem addM_ok (x y : Int) : addM (.ok x) (.ok y) = .ok (x + y) := rfl
@[simp] theorem subM_ok (x y : Int) : subM (.ok x) (.ok y) = .ok (x - y) := rfl
@[simp] theorem negM_ok (x : Int) : negM (.ok x) = .ok (-x) := rfl
theorem setM_ok {xs : List α} {i : Int} {y : α} {mk : List α → Res ρ} (h0 : 0 ≤ i) (h1 : i < xs.length) : setM xs (.ok i) (.ok y) mk = mk (xs.set i.toNat y) := by
  show (setF xs i y).bind mk = _
  unfold setF ixN
  rw [if_pos h0, if_pos h1]; rfl
theorem bif_eq {c : Bool} {a b : Res α} : Res.ite (.ok c) a b = if c = true then a else b := rfl
end
end Mw

/-! what all laws draw by: mirrors and facts -/
namespace Mw
open PySem L2
def m_law_far (p_script : (List Int)) (p_k : Int) : Res Int :=
  (Res.ite (eqM (lenM (.ok p_script)) (.ok (0 : Int)))
  (addM (mulM (.ok (97 : Int)) (.ok p_k)) (.ok (5 : Int)))
  (Res.ite (ltM (.ok p_k) (lenM (.ok p_script)))
  (idxM (.ok p_script) (.ok p_k))
  (addM (idxM (.ok p_script) (modM (Res.bind (.ok p_k) .ok) (lenM (.ok p_script)))) (mulM (.ok (1000003 : Int)) (.ok p_k)))))
def m_law_parts_b11 (p_cell : Int) (p_sizes : (List Int)) (p_k : Int) (s_ : (List Int) × Int) : Res ((List Int) × Int) :=
  match s_ with
 | (p_parts, p_rest) =>
  (Res.ite (geM (.ok p_rest) (.ok (0 : Int)))
  (appM p_parts (modM (Res.bind (.ok p_rest) .ok) (idxM (.ok p_sizes) (.ok p_k))) fun p_parts =>
  (Res.bind (fdivM (.ok p_rest) (idxM (.ok p_sizes) (.ok p_k))) fun (p_rest : Int) =>
  (.ok (p_parts, p_rest))))
  (Res.bind (modM (Res.bind (addM (addM (mulM (.ok p_cell) (.ok (48271 : Int))) (mulM (.ok p_k) (.ok (69621 : Int)))) (.ok (11 : Int))) .ok) (.ok (2147483647 : Int))) fun (p_mixed : Int) =>
  (Res.bind (modM (Res.bind (addM (addM (mulM (.ok p_mixed) (.ok p_mixed)) (mulM (.ok (16807 : Int)) (.ok p_k))) (.ok (5 : Int))) .ok) (.ok (998244353 : Int))) fun (p_mixed : Int) =>
  (appM p_parts (modM (Res.bind (.ok p_mixed) .ok) (idxM (.ok p_sizes) (.ok p_k))) fun p_parts =>
  (.ok (p_parts, p_rest))))))
def m_law_parts (p_cell : Int) (p_sizes : (List Int)) : Res (List Int) :=
  (Res.bind (.ok []) fun (p_parts : (List Int)) =>
  (Res.bind (subM (.ok p_cell) (powM (.ok (10 : Int)) (.ok (18 : Int)))) fun (p_rest : Int) =>
  (Res.bind (Res.bind (rng1M (lenM (.ok p_sizes))) fun xs => forM (m_law_parts_b11 p_cell p_sizes) xs (p_parts, p_rest)) (fun (s_ : (List Int) × Int) => match s_ with
 | (p_parts, p_rest) =>
  (.ok p_parts)))))
def m_law_is_integer (p_actual : (Option Int)) : Res Bool :=
  (andM (Res.bind (.ok p_actual) fun o => .ok (o.isSome)) (notM (Res.bind (.ok p_actual) fun o => .ok (false))))
def m_law_bits (p_number : Int) (p_count : Int) : Res (List Int) :=
  (lcB (fun (x1 : Int) => .ok true) (fun (x1 : Int) => (modM (fdivM (Res.bind (.ok p_number) .ok) (shlM (.ok (1 : Int)) (.ok x1))) (.ok (2 : Int)))) (rng1M (.ok p_count)))

theorem ltM_ok (a b : Int) : ltM (.ok a) (.ok b) = .ok (decide (a < b)) := rfl
theorem leM_ok (a b : Int) : leM (.ok a) (.ok b) = .ok (decide (a ≤ b)) := rfl
theorem gtM_ok (a b : Int) : gtM (.ok a) (.ok b) = .ok (decide (b < a)) := rfl
theorem geM_ok (a b : Int) : geM (.ok a) (.ok b) = .ok (decide (b ≤ a)) := rfl
theorem isint (x : Int) : m_law_is_integer (some x) = .ok true := rfl
theorem far (script : List Int) (hl : script.length ≤ 1000) {k : Int} (hk : 0 ≤ k ∧ k ≤ 1000000) : ∃ x, m_law_far script k = .ok x := by
  unfold m_law_far
  rw [lenM_ok, eqM_ok, bif_eq]
  split
  · exact ⟨_, by rw [mul_ok (by left; decide), addM_ok]⟩
  · rename_i h0
    have hp : 0 < script.length := by
      cases script with
      | nil => exact absurd rfl h0
      | cons a b => simp
    show ∃ x, Res.ite (.ok (decide (k < (script.length : Int)))) _ _ = .ok x
    rw [bif_eq]
    split
    · rename_i h1
      exact ⟨_, idxM_gx hk.1 (of_decide_eq_true h1)⟩
    · rw [Res.bind_ok, mod_ok (by omega), idxM_gx (Int.emod_nonneg _ (by omega)) (Int.emod_lt_of_pos _ (by omega)), mul_ok (by left; decide), addM_ok]
      exact ⟨_, rfl⟩
theorem parts (cell : Int) {sizes : List Int} (hl : sizes.length ≤ 1000) (hz : ∀ x ∈ sizes, 0 < x ∧ x < 1000000) : ∃ ps : List Int, m_law_parts cell sizes = .ok ps ∧ ps.length = sizes.length ∧ ∀ i : Int, 0 ≤ i ∧ i < sizes.length → 0 ≤ gx ps i ∧ gx ps i < gx sizes i := by
  have hb := lim_big
  unfold m_law_parts
  have ep : powM (.ok (10 : Int)) (.ok (18 : Int)) = .ok (10 ^ 18) := by
    have : cpow 10 18 = true := by decide
    show (if cpow 10 18 = true then Res.ok ((10 : Int) ^ (18 : Int).toNat) else .stuck) = _
    rw [if_pos this]; rfl
  rw [Res.bind_ok, ep, subM_ok, Res.bind_ok, lenM_ok, rng1_ok (by omega), Res.bind_ok]
  obtain ⟨⟨ps, rest⟩, e, h1, h2⟩ := forM_rng (f := m_law_parts_b11 cell sizes) (fun k (x : List Int × Int) => x.1.length = k ∧ ∀ i : Int, 0 ≤ i ∧ i < k → 0 ≤ gx x.1 i ∧ gx x.1 i < gx sizes i) (n := sizes.length) (s := ([], cell - 10 ^ 18)) ⟨rfl, fun i hi => by omega⟩ 0 fun k ⟨ps, rest⟩ hk ⟨h1, h2⟩ => by
    dsimp only at h1 h2
    have hs : 0 ≤ (0 : Int) + (k : Int) ∧ (0 : Int) + (k : Int) < sizes.length := ⟨by omega, by omega⟩
    have hz' := hz _ (gx_mem hs.1 hs.2)
    have put : ∀ y : Int, 0 ≤ y ∧ y < gx sizes (0 + (k : Int)) → (ps ++ [y]).length = k + 1 ∧ ∀ i : Int, 0 ≤ i ∧ i < ((k + 1 : Nat) : Int) → 0 ≤ gx (ps ++ [y]) i ∧ gx (ps ++ [y]) i < gx sizes i := fun y hy => by
      refine ⟨by rw [List.length_append, h1]; rfl, fun i hi => ?_⟩
      obtain ⟨n, rfl⟩ := Int.eq_ofNat_of_zero_le hi.1
      by_cases hn : n < k
      · have := h2 (n : Int) ⟨hi.1, by omega⟩
        rw [gx_nat (by rw [h1]; exact hn)] at this
        rw [gx_nat (by rw [List.length_append, h1]; omega), List.getElem_append_left (by rw [h1]; exact hn)]
        exact this
      · have en : n = k := by omega
        subst en
        rw [gx_nat (by rw [List.length_append, h1]; simp), List.getElem_append_right (by omega)]
        rw [Int.zero_add] at hy
        simpa [h1] using hy
    unfold m_law_parts_b11
    dsimp only
    show ∃ s', Res.ite (.ok (decide (rest ≥ 0))) _ _ = .ok s' ∧ _
    rw [bif_eq]
    split
    · rw [idxM_gx hs.1 hs.2, Res.bind_ok, mod_ok hz'.1, appM_ok _ _ _ (by rw [h1]; omega), fdiv_ok hz'.1 (by omega), Res.bind_ok]
      exact ⟨_, rfl, put _ ⟨Int.emod_nonneg _ (by omega), Int.emod_lt_of_pos _ hz'.1⟩⟩
    · rw [mul_ok (by right; decide), mul_ok (by right; decide), addM_ok, addM_ok, Res.bind_ok, mod_ok (by decide), Res.bind_ok]
      have m0 : 0 ≤ (cell * 48271 + (0 + (k : Int)) * 69621 + 11) % 2147483647 := Int.emod_nonneg _ (by decide)
      have m1 : (cell * 48271 + (0 + (k : Int)) * 69621 + 11) % 2147483647 < 2147483647 := Int.emod_lt_of_pos _ (by decide)
      generalize (cell * 48271 + (0 + (k : Int)) * 69621 + 11) % 2147483647 = q at m0 m1
      rw [mul_ok (by left; omega), mul_ok (by left; decide), addM_ok, addM_ok, Res.bind_ok, mod_ok (by decide), Res.bind_ok, idxM_gx hs.1 hs.2, Res.bind_ok, mod_ok hz'.1, appM_ok _ _ _ (by rw [h1]; omega)]
      exact ⟨_, rfl, put _ ⟨Int.emod_nonneg _ (by omega), Int.emod_lt_of_pos _ hz'.1⟩⟩
  dsimp only at h1 h2
  exact ⟨ps, by rw [e, Res.bind_ok], h1, h2⟩
/-- the bits of a number -/
def bitsL (n : Int) (c : Nat) : List Int := (List.range c).map fun k => n / ((2 ^ k : Nat) : Int) % 2
theorem bitsL_length (n : Int) (c : Nat) : (bitsL n c).length = c := by simp [bitsL]
theorem bitsL_get (n : Int) {c i : Nat} (h : i < c) : (bitsL n c)[i]? = some (n / ((2 ^ i : Nat) : Int) % 2) := by simp [bitsL, h]
theorem bitsL_gx (n : Int) {c : Nat} {i : Int} (h0 : 0 ≤ i) (h : i < c) : gx (bitsL n c) i = n / ((2 ^ i.toNat : Nat) : Int) % 2 := by
  unfold gx
  rw [bitsL_get n (show i.toNat < c by omega)]; rfl
theorem bitsL_01 (n : Int) (c : Nat) : ∀ x ∈ bitsL n c, x = 0 ∨ x = 1 := fun x hx => by
  obtain ⟨k, _, rfl⟩ := List.mem_map.mp hx
  omega
theorem bits_eq (n : Int) {c : Nat} (hc : c ≤ 20) : m_law_bits n (c : Int) = .ok (bitsL n c) := by
  unfold m_law_bits
  rw [rng1_ok (by omega)]
  have : bitsL n c = (rgL 0 c).map fun k => n / ((2 ^ k.toNat : Nat) : Int) % 2 := by
    unfold bitsL rgL
    rw [List.map_map]
    apply List.map_congr_left
    intro k _
    simp
  rw [this]
  refine lcB_map _ (by rw [rgL_length]; omega) fun x hx => ?_
  obtain ⟨h0, h1⟩ := mem_rgL.mp hx
  obtain ⟨k, rfl⟩ := Int.eq_ofNat_of_zero_le h0
  have p : 0 < 2 ^ k := Nat.pow_pos (by decide)
  have q : 2 ^ k ≤ 2 ^ 20 := Nat.pow_le_pow_right (by decide) (by omega)
  rw [shl1_ok (by omega), Res.bind_ok, fdiv_ok (by omega) (by omega), mod_ok (by omega)]
  simp
theorem repC_ok {α : Type} (xs : List α) {n : Nat} (hn : n ≤ 1000000) (hx : xs.length * n ≤ 1000000) : repM (.ok xs) (.ok (n : Int)) = .ok (List.replicate n xs).flatten := by
  have hb := lim_big
  have h1 : (decide (-(2 ^ 63) ≤ (n : Int)) && decide ((n : Int) < 2 ^ 63) && decide (xs.length * (n : Int).toNat ≤ lim)) = true := by
    have q1 : (-(2 ^ 63) : Int) ≤ 0 := by decide
    have q2 : (1000001 : Int) < 2 ^ 63 := by decide
    rw [decide_eq_true (Int.le_trans q1 (by omega)), decide_eq_true (Int.lt_trans (by omega) q2), decide_eq_true]
    · rfl
    · rw [Int.toNat_natCast]; omega
  unfold repM
  rw [Res.bind2_ok]
  unfold repF
  rw [if_pos h1, Int.toNat_natCast]
theorem rep1_ok {α : Type} (a : α) {n : Nat} (hn : n ≤ 1000000) : repM (.ok [a]) (.ok (n : Int)) = .ok (List.replicate n a) := by
  rw [repC_ok [a] hn (by simpa using hn)]
  congr 1
  induction n with
  | zero => rfl
  | succ n ih => rw [List.replicate_succ, List.flatten_cons, ih (by omega), List.replicate_succ]; rfl
theorem catM_ok {α : Type} (xs ys : List α) (h : xs.length + ys.length ≤ 1000000) : catM (.ok xs) (.ok ys) = .ok (xs ++ ys) := by
  have hb := lim_big
  unfold catM
  rw [Res.bind2_ok]
  unfold catF
  rw [if_pos (by omega)]
theorem lrg1_ok {n : Nat} (h : n < 1000000) : lrg1M (.ok (n : Int)) = .ok (rgL 0 n) := by
  have hb := lim_big
  have a : (-(2 ^ 62) : Int) ≤ 0 := by decide
  have b : (1000000 : Int) < 2 ^ 62 := by decide
  have e : rgOk 0 (n : Int) = true := by
    unfold rgOk inR
    have q : (((n : Int) - 0).toNat ≤ lim) := by omega
    have z : (0 : Int) < 2 ^ 62 := by decide
    have w : (-(2 ^ 62) : Int) ≤ (n : Int) := Int.le_trans a (by omega)
    have w2 : (n : Int) < 2 ^ 62 := Int.lt_trans (show (n : Int) < 1000000 by omega) b
    simp only [Bool.and_eq_true, decide_eq_true_eq]
    exact ⟨⟨⟨a, z⟩, w, w2⟩, q⟩
  unfold lrg1M
  rw [Res.bind_ok, if_pos e, Int.toNat_natCast]
theorem insF_ok {α : Type} (xs : List α) (y : α) (h : xs.length < 1000000) : insF xs 0 y = .ok (y :: xs) := by
  have hb := lim_big
  have z : (0 : Int) < 2 ^ 62 := by decide
  unfold insF
  rw [if_pos ⟨Nat.lt_trans h hb, Int.le_refl 0, z⟩]
  rfl
theorem insM_ok {α ρ : Type} (xs : List α) (y : α) (mk : List α → Res ρ) (h : xs.length < 1000000) : insM xs (.ok 0) (.ok y) mk = mk (y :: xs) := by
  unfold insM
  rw [Res.bind_ok, Res.bind_ok, insF_ok xs y h, Res.bind_ok]
theorem all_rgL {n : Nat} {p : Int → Bool} : (rgL 0 n).all p = true ↔ ∀ k : Nat, k < n → p (k : Int) = true := by
  rw [List.all_eq_true]
  constructor
  · intro h k hk
    exact h _ (mem_rgL.mpr ⟨by omega, by omega⟩)
  · intro h x hx
    obtain ⟨h0, h1⟩ := mem_rgL.mp hx
    obtain ⟨k, rfl⟩ := Int.eq_ofNat_of_zero_le h0
    exact h k (by omega)
theorem rgL_map_succ (n : Nat) (i : Int) : rgL (i + 1) n = (rgL i n).map (· + 1) := by
  unfold rgL
  rw [List.map_map]
  apply List.map_congr_left
  intro k _
  simp only [Function.comp]
  omega
theorem gx_succ {α : Type} [Inhabited α] (x : α) (xs : List α) {i : Int} (h : 0 ≤ i) : gx (x :: xs) (i + 1) = gx xs i := by
  unfold gx
  rw [show (i + 1).toNat = i.toNat + 1 by omega, List.getElem?_cons_succ]
theorem gx_zero {α : Type} [Inhabited α] (x : α) (xs : List α) : gx (x :: xs) 0 = x := rfl
end Mw


namespace G89
open PySem Mw
def m_numbered_names_b6  (p_name : Str) (p_names : (List (Str × Str))) : Res ((List (Str × Str))) :=
  (dputM p_names (.ok p_name) ((fun acc => Res.bind (.ok ("a" : Str)) fun y => if (acc ++ y).length ≤ lim then (fun acc => Res.bind (strIM (.ok (p_names.length : Int))) fun y => if (acc ++ y).length ≤ lim then (fun acc => .ok acc) (acc ++ y) else .stuck) (acc ++ y) else .stuck) Str.empty) fun p_names =>
  (.ok p_names))
def m_numbered_names (p_netlist : ((List Str) × (List Str) × (List (Str × Str × (List Str))))) : Res (List (Str × Str)) :=
  (Res.bind (.ok []) fun (p_names : (List (Str × Str))) =>
  (Res.bind (Res.bind (catM (Res.bind (Res.bind (.ok p_netlist) fun a => .ok a.1) .ok) (lcB (fun (x2 : (Str × Str × (List Str))) => .ok true) (fun (x2 : (Str × Str × (List Str))) => (Res.bind (.ok x2) fun a => .ok a.1)) (Res.bind (.ok p_netlist) fun a => .ok a.2.2))) fun xs => forM m_numbered_names_b6 xs p_names) (fun (p_names : (List (Str × Str))) => (.ok p_names))))
def m_renamed (p_names : (List (Str × Str))) (p_nets : (List Str)) : Res (List Str) :=
  (Res.bind (lcB (fun (x1 : Str) => .ok true) (fun (x1 : Str) => (Res.bind (.ok p_names) fun xs => dgetM xs (.ok x1))) (.ok p_nets)) .ok)
def m_renamed_gates (p_netlist : ((List Str) × (List Str) × (List (Str × Str × (List Str))))) (p_names : (List (Str × Str))) : Res (List (Str × Str × (List Str))) :=
  (lcB (fun (x1 : (Str × Str × (List Str))) => .ok true) (fun (x1 : (Str × Str × (List Str))) => (pairM (Res.bind (.ok p_names) fun xs => dgetM xs (.ok x1.1)) (pairM (.ok x1.2.1) (Res.bind (pairM (.ok p_names) (.ok x1.2.2)) fun a => m_renamed (a.1) (a.2))))) (Res.bind (.ok p_netlist) fun a => .ok a.2.2))
def m_second_names_b6  (x_ : (Int × (Str × Str × (List Str)))) (p_others : (List (Str × Str))) : Res ((List (Str × Str))) :=
  match x_ with
 | (p_at, p_gate) =>
  (dputM p_others (Res.bind (.ok p_gate) fun a => .ok a.1) ((fun acc => Res.bind (.ok ("b" : Str)) fun y => if (acc ++ y).length ≤ lim then (fun acc => Res.bind (strIM (.ok p_at)) fun y => if (acc ++ y).length ≤ lim then (fun acc => .ok acc) (acc ++ y) else .stuck) (acc ++ y) else .stuck) Str.empty) fun p_others =>
  (.ok p_others))
def m_second_names (p_second : ((List Str) × (List Str) × (List (Str × Str × (List Str))))) (p_names : (List (Str × Str))) (p_sources : (List Str)) : Res (List (Str × Str)) :=
  (Res.bind (dcB (fun (x1 : (Str × Str)) => (.ok x1.1)) (fun (x1 : (Str × Str)) => (Res.bind (.ok p_names) fun xs => dgetM xs (.ok x1.2))) (zipM (Res.bind (.ok p_second) fun a => .ok a.1) (.ok p_sources))) fun (p_others : (List (Str × Str))) =>
  (Res.bind (Res.bind (enumM (Res.bind (.ok p_second) fun a => .ok a.2.2)) fun xs => forM m_second_names_b6 xs p_others) (fun (p_others : (List (Str × Str))) => (.ok p_others))))
def m_letter_count (p_table : (Int × Int × (List (List (Int × Int))))) : Res Int :=
  (shlM (.ok (1 : Int)) (Res.bind (.ok p_table) fun a => .ok a.1))
def m_state_count (p_table : (Int × Int × (List (List (Int × Int))))) : Res Int :=
  (lenM (Res.bind (.ok p_table) fun a => .ok a.2.2))
def m_step (p_table : (Int × Int × (List (List (Int × Int))))) (p_state : Int) (p_letter : Int) : Res (Int × Int) :=
  (idxM (idxM (Res.bind (.ok p_table) fun a => .ok a.2.2) (.ok p_state)) (.ok p_letter))
def m_check_gates (p_gates : (List (Str × Str × (List Str)))) : Res Unit :=
  (Res.ite (orM (gtM (lenM (.ok p_gates)) (.ok (40 : Int))) (gtM (lenM (lcB (fun (x1 : (Str × Str × (List Str))) => (eqM (Res.bind (.ok x1) fun a => .ok a.2.1) (.ok ("latch" : Str)))) (fun (x1 : (Str × Str × (List Str))) => (.ok x1)) (.ok p_gates))) (.ok (4 : Int))))
  (.exc 1 [])
  (.ok ()))
def m_join_netlists (p_first : ((List Str) × (List Str) × (List (Str × Str × (List Str))))) (p_second : ((List Str) × (List Str) × (List (Str × Str × (List Str))))) : Res ((List Str) × (List Str) × (List (Str × Str × (List Str)))) :=
  (Res.ite (neM (lenM (Res.bind (.ok p_first) fun a => .ok a.2.1)) (lenM (Res.bind (.ok p_second) fun a => .ok a.1)))
  (.exc 0 [])
  (Res.bind (Res.bind (.ok p_first) fun a => m_numbered_names a) fun (p_names : (List (Str × Str))) =>
  (Res.bind (Res.bind (pairM (.ok p_second) (pairM (.ok p_names) (Res.bind (.ok p_first) fun a => .ok a.2.1))) fun a => m_second_names (a.1) (a.2.1) (a.2.2)) fun (p_others : (List (Str × Str))) =>
  (Res.bind (catM (Res.bind (pairM (.ok p_first) (.ok p_names)) fun a => m_renamed_gates (a.1) (a.2)) (Res.bind (pairM (.ok p_second) (.ok p_others)) fun a => m_renamed_gates (a.1) (a.2))) fun (p_gates : (List (Str × Str × (List Str)))) =>
  (Res.bind (Res.bind (.ok p_gates) fun a => m_check_gates a) fun _ =>
  (pairM (Res.bind (pairM (.ok p_names) (Res.bind (.ok p_first) fun a => .ok a.1)) fun a => m_renamed (a.1) (a.2)) (pairM (Res.bind (pairM (.ok p_others) (Res.bind (.ok p_second) fun a => .ok a.2.1)) fun a => m_renamed (a.1) (a.2)) (Res.bind (.ok p_gates) .ok))))))))
def m_join_tables_b13 (p_first : (Int × Int × (List (List (Int × Int))))) (p_second : (Int × Int × (List (List (Int × Int))))) (p_b : Int) (x_ : (Int × Int)) (p_joined : (List (Int × Int))) : Res ((List (Int × Int))) :=
  match x_ with
 | (p_left, p_middle) =>
  (Res.bind (Res.bind (pairM (.ok p_second) (pairM (.ok p_b) (.ok p_middle))) fun a => m_step (a.1) (a.2.1) (a.2.2)) fun (p : (Int × Int)) => match p with
 | (p_right, p_answer) =>
  (appM p_joined (pairM (addM (.ok p_left) (mulM (Res.bind (.ok p_first) fun a => m_state_count a) (.ok p_right))) (.ok p_answer)) fun p_joined =>
  (.ok p_joined)))
def m_join_tables_b14 (p_first : (Int × Int × (List (List (Int × Int))))) (p_second : (Int × Int × (List (List (Int × Int))))) (p_b : Int) (p_row : (List (Int × Int))) (p_rows : (List (List (Int × Int)))) : Res ((List (List (Int × Int)))) :=
  (Res.bind (.ok []) fun (p_joined : (List (Int × Int))) =>
  (Res.bind (Res.bind (.ok p_row) fun xs => forM (m_join_tables_b13 p_first p_second p_b) xs p_joined) (fun (p_joined : (List (Int × Int))) => (appM p_rows (Res.bind (.ok p_joined) .ok) fun p_rows =>
  (.ok p_rows)))))
def m_join_tables_b16 (p_first : (Int × Int × (List (List (Int × Int))))) (p_second : (Int × Int × (List (List (Int × Int))))) (p_b : Int) (p_rows : (List (List (Int × Int)))) : Res ((List (List (Int × Int)))) :=
  (Res.bind (Res.bind (Res.bind (.ok p_first) fun a => .ok a.2.2) fun xs => forM (m_join_tables_b14 p_first p_second p_b) xs p_rows) (fun (p_rows : (List (List (Int × Int)))) => (.ok p_rows)))
def m_join_tables (p_first : (Int × Int × (List (List (Int × Int))))) (p_second : (Int × Int × (List (List (Int × Int))))) : Res (Int × Int × (List (List (Int × Int)))) :=
  (Res.ite (neM (Res.bind (.ok p_first) fun a => .ok a.2.1) (Res.bind (.ok p_second) fun a => .ok a.1))
  (.exc 0 [])
  (Res.bind (mulM (Res.bind (.ok p_first) fun a => m_state_count a) (Res.bind (.ok p_second) fun a => m_state_count a)) fun (p_states : Int) =>
  (Res.ite (orM (gtM (.ok p_states) (.ok (32 : Int))) (gtM (mulM (.ok p_states) (Res.bind (.ok p_first) fun a => m_letter_count a)) (.ok (1024 : Int))))
  (.exc 1 [])
  (Res.bind (.ok []) fun (p_rows : (List (List (Int × Int)))) =>
  (Res.bind (Res.bind (rng1M (Res.bind (.ok p_second) fun a => m_state_count a)) fun xs => forM (m_join_tables_b16 p_first p_second) xs p_rows) (fun (p_rows : (List (List (Int × Int)))) => (pairM (Res.bind (.ok p_first) fun a => .ok a.1) (pairM (Res.bind (.ok p_second) fun a => .ok a.2.1) (Res.bind (.ok p_rows) .ok)))))))))
def m_law_gate_j13 (p_name : Str) (p_parts : (List Int)) (p_nets : (List Str)) (p_kind : Str) (s_ : Int) : Res (Str × Str × (List Str)) :=
  match s_ with
 | p_count =>
  (pairM (.ok p_name) (pairM (.ok p_kind) (Res.bind (lcB (fun (x14 : Int) => .ok true) (fun (x14 : Int) => (idxM (.ok p_nets) (modM (Res.bind (idxM (.ok p_parts) (addM (.ok (2 : Int)) (.ok x14))) .ok) (lenM (.ok p_nets))))) (rng1M (.ok p_count))) .ok)))
def m_law_gate_j11 (p_name : Str) (p_parts : (List Int)) (p_nets : (List Str)) (p_kind : Str) (s_ : Int) : Res (Str × Str × (List Str)) :=
  match s_ with
 | p_count =>
  (Res.ite (eqM (.ok p_kind) (.ok ("mux" : Str)))
  (Res.bind (.ok (3 : Int)) fun (p_count : Int) =>
  (m_law_gate_j13 p_name p_parts p_nets p_kind p_count))
  (m_law_gate_j13 p_name p_parts p_nets p_kind p_count))
def m_law_gate_j9 (p_name : Str) (p_parts : (List Int)) (p_nets : (List Str)) (p_kind : Str) (s_ : Int) : Res (Str × Str × (List Str)) :=
  match s_ with
 | p_count =>
  (Res.ite (eqM (.ok p_kind) (.ok ("xor" : Str)))
  (Res.bind (.ok (2 : Int)) fun (p_count : Int) =>
  (m_law_gate_j11 p_name p_parts p_nets p_kind p_count))
  (m_law_gate_j11 p_name p_parts p_nets p_kind p_count))
def m_law_gate_j7 (p_name : Str) (p_parts : (List Int)) (p_nets : (List Str)) (p_kind : Str) (s_ : Int) : Res (Str × Str × (List Str)) :=
  match s_ with
 | p_count =>
  (Res.ite (eqM (.ok p_kind) (.ok ("not" : Str)))
  (Res.bind (.ok (1 : Int)) fun (p_count : Int) =>
  (m_law_gate_j9 p_name p_parts p_nets p_kind p_count))
  (m_law_gate_j9 p_name p_parts p_nets p_kind p_count))
def m_law_gate_j4 (p_name : Str) (p_parts : (List Int)) (p_nets : (List Str)) (s_ : Str) : Res (Str × Str × (List Str)) :=
  match s_ with
 | p_kind =>
  (Res.bind (addM (.ok (2 : Int)) (idxM (.ok p_parts) (.ok (1 : Int)))) fun (p_count : Int) =>
  (Res.ite (inM (.ok p_kind) (consM (.ok ("zero" : Str)) (consM (.ok ("one" : Str)) (.ok []))))
  (Res.bind (.ok (0 : Int)) fun (p_count : Int) =>
  (m_law_gate_j7 p_name p_parts p_nets p_kind p_count))
  (m_law_gate_j7 p_name p_parts p_nets p_kind p_count)))
def m_law_gate (p_name : Str) (p_parts : (List Int)) (p_nets : (List Str)) : Res (Str × Str × (List Str)) :=
  (Res.bind (consM (.ok ("not" : Str)) (consM (.ok ("not" : Str)) (consM (.ok ("and" : Str)) (consM (.ok ("and" : Str)) (consM (.ok ("or" : Str)) (consM (.ok ("or" : Str)) (consM (.ok ("nand" : Str)) (consM (.ok ("nand" : Str)) (consM (.ok ("nor" : Str)) (consM (.ok ("nor" : Str)) (consM (.ok ("xor" : Str)) (consM (.ok ("xor" : Str)) (consM (.ok ("mux" : Str)) (consM (.ok ("mux" : Str)) (.ok []))))))))))))))) fun (p_kinds : (List Str)) =>
  (Res.bind (idxM (catM (.ok p_kinds) (consM (.ok ("zero" : Str)) (consM (.ok ("one" : Str)) (.ok [])))) (idxM (.ok p_parts) (.ok (0 : Int)))) fun (p_kind : Str) =>
  (Res.ite (eqM (lenM (.ok p_nets)) (.ok (0 : Int)))
  (Res.bind (idxM (consM (.ok ("zero" : Str)) (consM (.ok ("one" : Str)) (.ok []))) (idxM (.ok p_parts) (.ok (1 : Int)))) fun (p_kind : Str) =>
  (m_law_gate_j4 p_name p_parts p_nets p_kind))
  (m_law_gate_j4 p_name p_parts p_nets p_kind))))
def m_law_netlist_j24 (p_sizes : (List Int)) (p_nets : (List Str)) (p_rows : (List (Str × Str × (List Str)))) (s_ : (List Str)) : Res ((List Str) × (List Str) × (List (Str × Str × (List Str)))) :=
  match s_ with
 | p_outputs =>
  (pairM (Res.bind (sliceM (.ok p_nets) (.ok none) (someM (idxM (.ok p_sizes) (.ok (0 : Int))))) .ok) (pairM (Res.bind (.ok p_outputs) .ok) (Res.bind (.ok p_rows) .ok)))
def m_law_netlist_j20 (p_sizes : (List Int)) (p_tail : (List Int)) (p_nets : (List Str)) (p_near : Int) (s_ : (List (Str × Str × (List Str)))) : Res ((List Str) × (List Str) × (List (Str × Str × (List Str)))) :=
  match s_ with
 | p_rows =>
  (Res.bind (lcB (fun (x21 : Int) => .ok true) (fun (x21 : Int) => (idxM (.ok p_nets) (subM (negM (.ok (1 : Int))) (modM (Res.bind (idxM (.ok p_tail) (addM (.ok (4 : Int)) (.ok x21))) .ok) (.ok p_near))))) (rng1M (idxM (.ok p_sizes) (.ok (3 : Int))))) fun (p_outputs : (List Str)) =>
  (Res.ite (ltM (idxM (.ok p_tail) (.ok (10 : Int))) (.ok (12 : Int)))
  (setM p_outputs (.ok (0 : Int)) (idxM (.ok p_nets) (modM (Res.bind (idxM (.ok p_tail) (.ok (10 : Int))) .ok) (lenM (.ok p_nets)))) fun p_outputs =>
  (m_law_netlist_j24 p_sizes p_nets p_rows p_outputs))
  (m_law_netlist_j24 p_sizes p_nets p_rows p_outputs)))
def m_law_netlist_b30 (p_script : (List Int)) (p_at : Int) (p_lead : Str) (p_k : Int) (s_ : (List (Str × Str × (List Str))) × (List Str)) : Res ((List (Str × Str × (List Str))) × (List Str)) :=
  match s_ with
 | (p_order, p_nets) =>
  (Res.bind (Res.bind (pairM (Res.bind (pairM (.ok p_script) (addM (addM (.ok p_at) (.ok (1 : Int))) (.ok p_k))) fun a => m_law_far (a.1) (a.2)) (consM (.ok (16 : Int)) (consM (.ok (2 : Int)) (consM (.ok (60 : Int)) (consM (.ok (60 : Int)) (consM (.ok (60 : Int)) (.ok []))))))) fun a => m_law_parts (a.1) (a.2)) fun (p_parts : (List Int)) =>
  (appM p_order (Res.bind (pairM (addSM (.ok p_lead) (strIM (addM (.ok (10 : Int)) (.ok p_k)))) (pairM (.ok p_parts) (.ok p_nets))) fun a => m_law_gate (a.1) (a.2.1) (a.2.2)) fun p_order =>
  (appM p_nets (Res.bind (idxM (.ok p_order) (negM (.ok (1 : Int)))) fun a => .ok a.1) fun p_nets =>
  (.ok (p_order, p_nets)))))
def m_law_netlist (p_script : (List Int)) (p_at : Int) (p_sizes : (List Int)) : Res ((List Str) × (List Str) × (List (Str × Str × (List Str)))) :=
  (Res.bind (Res.bind (pairM (Res.bind (pairM (.ok p_script) (.ok p_at)) fun a => m_law_far (a.1) (a.2)) (catM (repM (consM (.ok (60 : Int)) (.ok [])) (.ok (11 : Int))) (consM (.ok (41 : Int)) (consM (.ok (2 : Int)) (consM (.ok (26 : Int)) (.ok [])))))) fun a => m_law_parts (a.1) (a.2)) fun (p_tail : (List Int)) =>
  (Res.bind (ixSM (.ok ("abcdefghijklmnopqrstuvwxyz" : Str)) (idxM (.ok p_tail) (.ok (13 : Int)))) fun (p_lead : Str) =>
  (Res.bind (catM (lcB (fun (x3 : Int) => .ok true) (fun (x3 : Int) => (addSM (.ok p_lead) (strIM (.ok x3)))) (rng1M (idxM (.ok p_sizes) (.ok (0 : Int))))) (lcB (fun (x4 : Int) => .ok true) (fun (x4 : Int) => (addSM (.ok p_lead) (strIM (addM (.ok (6 : Int)) (.ok x4))))) (rng1M (idxM (.ok p_sizes) (.ok (1 : Int)))))) fun (p_nets : (List Str)) =>
  (Res.bind (.ok []) fun (p_order : (List (Str × Str × (List Str)))) =>
  (Res.bind (Res.bind (rng1M (idxM (.ok p_sizes) (.ok (2 : Int)))) fun xs => forM (m_law_netlist_b30 p_script p_at p_lead) xs (p_order, p_nets)) (fun (s_ : (List (Str × Str × (List Str))) × (List Str)) => match s_ with
 | (p_order, p_nets) =>
  (Res.bind (min2M (lenM (.ok p_nets)) (addM (idxM (.ok p_sizes) (.ok (1 : Int))) (idxM (.ok p_sizes) (.ok (2 : Int))))) fun (p_near : Int) =>
  (Res.bind (catM (lcB (fun (x14 : Int) => .ok true) (fun (x14 : Int) => (pairM (idxM (.ok p_nets) (addM (idxM (.ok p_sizes) (.ok (0 : Int))) (.ok x14))) (pairM (.ok ("latch" : Str)) (consM (idxM (.ok p_nets) (subM (negM (.ok (1 : Int))) (modM (Res.bind (idxM (.ok p_tail) (.ok x14)) .ok) (.ok p_near)))) (.ok []))))) (rng1M (idxM (.ok p_sizes) (.ok (1 : Int))))) (.ok p_order)) fun (p_rows : (List (Str × Str × (List Str)))) =>
  (Res.bind (modM (Res.bind (idxM (.ok p_tail) (.ok (11 : Int))) .ok) (lenM (.ok p_rows))) fun (p_turn : Int) =>
  (Res.bind (catM (sliceM (.ok p_rows) (someM (.ok p_turn)) (.ok none)) (sliceM (.ok p_rows) (.ok none) (someM (.ok p_turn)))) fun (p_rows : (List (Str × Str × (List Str)))) =>
  (Res.ite (eqM (idxM (.ok p_tail) (.ok (12 : Int))) (.ok (1 : Int)))
  (Res.bind (.ok (List.reverse p_rows)) fun (p_rows : (List (Str × Str × (List Str)))) =>
  (m_law_netlist_j20 p_sizes p_tail p_nets p_near p_rows))
  (m_law_netlist_j20 p_sizes p_tail p_nets p_near p_rows))))))))))))
def m_law_gate_value (p_kind : Str) (p_bits : (List Int)) : Res Int :=
  (Res.bind (sumM (.ok p_bits)) fun (p_ones : Int) =>
  (Res.ite (orM (eqM (.ok p_kind) (.ok ("zero" : Str))) (eqM (.ok p_kind) (.ok ("one" : Str))))
  (b2iM (eqM (.ok p_kind) (.ok ("one" : Str))))
  (Res.ite (eqM (.ok p_kind) (.ok ("mux" : Str)))
  (idxM (.ok p_bits) (addM (.ok (1 : Int)) (idxM (.ok p_bits) (.ok (0 : Int)))))
  (Res.ite (eqM (.ok p_kind) (.ok ("not" : Str)))
  (subM (.ok (1 : Int)) (.ok p_ones))
  (Res.ite (eqM (.ok p_kind) (.ok ("xor" : Str)))
  (b2iM (eqM (.ok p_ones) (.ok (1 : Int))))
  (Res.ite (orM (eqM (.ok p_kind) (.ok ("and" : Str))) (eqM (.ok p_kind) (.ok ("nand" : Str))))
  (b2iM (eqM (eqM (.ok p_ones) (lenM (.ok p_bits))) (eqM (.ok p_kind) (.ok ("and" : Str)))))
  (b2iM (eqM (gtM (.ok p_ones) (.ok (0 : Int))) (eqM (.ok p_kind) (.ok ("or" : Str)))))))))))
def m_law_ends_b18  (p_gate : (Str × Str × (List Str))) (p_values : (List (Str × Int))) : Res ((List (Str × Int))) :=
  (Res.bind (lcB (fun (x13 : Str) => (dinM p_values (.ok x13))) (fun (x13 : Str) => (.ok x13)) (Res.bind (.ok p_gate) fun a => .ok a.2.2)) fun (p_known : (List Str)) =>
  (Res.ite (eqM (lenM (.ok p_known)) (lenM (Res.bind (.ok p_gate) fun a => .ok a.2.2)))
  (dputM p_values (Res.bind (.ok p_gate) fun a => .ok a.1) (Res.bind (pairM (Res.bind (.ok p_gate) fun a => .ok a.2.1) (lcB (fun (x16 : Str) => .ok true) (fun (x16 : Str) => (dgetM p_values (.ok x16))) (Res.bind (.ok p_gate) fun a => .ok a.2.2))) fun a => m_law_gate_value (a.1) (a.2)) fun p_values =>
  (.ok p_values))
  (.ok p_values)))
def m_law_ends_b21 (p_netlist : ((List Str) × (List Str) × (List (Str × Str × (List Str))))) (p_turn : Int) (p_values : (List (Str × Int))) : Res (Tn ((List (Str × Int))) (List Int)) :=
  (Res.bind (lcB (fun (x9 : (Str × Str × (List Str))) => (notM (dinM p_values (Res.bind (.ok x9) fun a => .ok a.1)))) (fun (x9 : (Str × Str × (List Str))) => (.ok x9)) (Res.bind (.ok p_netlist) fun a => .ok a.2.2)) fun (p_left : (List (Str × Str × (List Str)))) =>
  (Res.ite (eqM (lenM (.ok p_left)) (.ok (0 : Int)))
  (.ok (.bk p_values))
  (Res.bind (Res.bind (.ok p_left) fun xs => forM m_law_ends_b18 xs p_values) (fun (p_values : (List (Str × Int))) => (.ok (.nx p_values))))))
def m_law_ends_b22 (p_bits : (List Int)) (p_names : (List Str)) (p_k : Int) (p_values : (List (Str × Int))) : Res ((List (Str × Int))) :=
  (dputM p_values (idxM (.ok p_names) (.ok p_k)) (idxM (.ok p_bits) (.ok p_k)) fun p_values =>
  (.ok p_values))
def m_law_ends (p_netlist : ((List Str) × (List Str) × (List (Str × Str × (List Str))))) (p_bits : (List Int)) : Res (List Int) :=
  (Res.bind (lcB (fun (x1 : (Str × Str × (List Str))) => (eqM (Res.bind (.ok x1) fun a => .ok a.2.1) (.ok ("latch" : Str)))) (fun (x1 : (Str × Str × (List Str))) => (.ok x1)) (Res.bind (.ok p_netlist) fun a => .ok a.2.2)) fun (p_latches : (List (Str × Str × (List Str)))) =>
  (Res.bind (catM (Res.bind (Res.bind (.ok p_netlist) fun a => .ok a.1) .ok) (lcB (fun (x3 : (Str × Str × (List Str))) => .ok true) (fun (x3 : (Str × Str × (List Str))) => (Res.bind (.ok x3) fun a => .ok a.1)) (.ok p_latches))) fun (p_names : (List Str)) =>
  (Res.bind (.ok []) fun (p_values : (List (Str × Int))) =>
  (Res.bind (Res.bind (rng1M (lenM (.ok p_names))) fun xs => forM (m_law_ends_b22 p_bits p_names) xs p_values) (fun (p_values : (List (Str × Int))) => (Res.bind (Res.bind (rng1M (lenM (Res.bind (.ok p_netlist) fun a => .ok a.2.2))) fun xs => forB (m_law_ends_b21 p_netlist) xs p_values) (Lp.el (fun (p_values : (List (Str × Int))) => (catM (lcB (fun (x19 : Str) => .ok true) (fun (x19 : Str) => (dgetM p_values (.ok x19))) (Res.bind (.ok p_netlist) fun a => .ok a.2.1)) (lcB (fun (x20 : (Str × Str × (List Str))) => .ok true) (fun (x20 : (Str × Str × (List Str))) => (dgetM p_values (idxM (Res.bind (.ok x20) fun a => .ok a.2.2) (.ok (0 : Int))))) (.ok p_latches)))) (fun _ => .stuck))))))))
def m_law_net_table_b16 (p_netlist : ((List Str) × (List Str) × (List (Str × Str × (List Str))))) (p_inputs : Int) (p_latches : Int) (p_outputs : Int) (p_state : Int) (p_letter : Int) (p_row : (List (Int × Int))) : Res ((List (Int × Int))) :=
  (Res.bind (Res.bind (pairM (.ok p_netlist) (Res.bind (pairM (addM (.ok p_letter) (mulM (.ok p_state) (shlM (.ok (1 : Int)) (.ok p_inputs)))) (addM (.ok p_inputs) (.ok p_latches))) fun a => m_law_bits (a.1) (a.2))) fun a => m_law_ends (a.1) (a.2)) fun (p_ends : (List Int)) =>
  (Res.bind (sumM (lcB (fun (x10 : Int) => .ok true) (fun (x10 : Int) => (mulM (idxM (.ok p_ends) (.ok x10)) (shlM (.ok (1 : Int)) (.ok x10)))) (rng1M (.ok p_outputs)))) fun (p_answer : Int) =>
  (appM p_row (pairM (sumM (lcB (fun (x12 : Int) => .ok true) (fun (x12 : Int) => (mulM (idxM (.ok p_ends) (addM (.ok p_outputs) (.ok x12))) (shlM (.ok (1 : Int)) (.ok x12)))) (rng1M (.ok p_latches)))) (.ok p_answer)) fun p_row =>
  (.ok p_row))))
def m_law_net_table_b18 (p_netlist : ((List Str) × (List Str) × (List (Str × Str × (List Str))))) (p_inputs : Int) (p_latches : Int) (p_outputs : Int) (p_state : Int) (p_rows : (List (List (Int × Int)))) : Res ((List (List (Int × Int)))) :=
  (Res.bind (.ok []) fun (p_row : (List (Int × Int))) =>
  (Res.bind (Res.bind (rng1M (shlM (.ok (1 : Int)) (.ok p_inputs))) fun xs => forM (m_law_net_table_b16 p_netlist p_inputs p_latches p_outputs p_state) xs p_row) (fun (p_row : (List (Int × Int))) => (appM p_rows (Res.bind (.ok p_row) .ok) fun p_rows =>
  (.ok p_rows)))))
def m_law_net_table (p_netlist : ((List Str) × (List Str) × (List (Str × Str × (List Str))))) : Res (Int × Int × (List (List (Int × Int)))) :=
  (Res.bind (lenM (Res.bind (.ok p_netlist) fun a => .ok a.1)) fun (p_inputs : Int) =>
  (Res.bind (lenM (lcB (fun (x2 : (Str × Str × (List Str))) => (eqM (Res.bind (.ok x2) fun a => .ok a.2.1) (.ok ("latch" : Str)))) (fun (x2 : (Str × Str × (List Str))) => (.ok (1 : Int))) (Res.bind (.ok p_netlist) fun a => .ok a.2.2))) fun (p_latches : Int) =>
  (Res.bind (lenM (Res.bind (.ok p_netlist) fun a => .ok a.2.1)) fun (p_outputs : Int) =>
  (Res.bind (.ok []) fun (p_rows : (List (List (Int × Int)))) =>
  (Res.bind (Res.bind (rng1M (shlM (.ok (1 : Int)) (.ok p_latches))) fun xs => forM (m_law_net_table_b18 p_netlist p_inputs p_latches p_outputs) xs p_rows) (fun (p_rows : (List (List (Int × Int)))) => (pairM (.ok p_inputs) (pairM (.ok p_outputs) (Res.bind (.ok p_rows) .ok)))))))))
def m_law_same_netlist_b9  (p_gate : (Str × Str × (List Str))) (s_ : Unit) : Res (Tn (Unit) Bool) :=
  match s_ with
 | () =>
  (Res.ite (orM (notM (Res.bind (.ok p_gate) fun _ => .ok true)) (orM (neM (Res.bind (.ok p_gate) fun _ => .ok (3 : Int)) (.ok (3 : Int))) (notM (Res.bind (Res.bind (.ok p_gate) fun a => .ok a.2.2) fun _ => .ok true))))
  (Res.bind (.ok false) fun r => .ok (.rt r))
  (Res.ite (orM (notM (Res.bind (Res.bind (.ok p_gate) fun a => .ok a.1) fun _ => .ok true)) (notM (Res.bind (Res.bind (.ok p_gate) fun a => .ok a.2.1) fun _ => .ok true)))
  (Res.bind (.ok false) fun r => .ok (.rt r))
  (.ok (.nx ()))))
def m_law_same_netlist_b10  (p_name : Str) (s_ : Unit) : Res (Tn (Unit) Bool) :=
  match s_ with
 | () =>
  (Res.ite (notM (Res.bind (.ok p_name) fun _ => .ok true))
  (Res.bind (.ok false) fun r => .ok (.rt r))
  (.ok (.nx ())))
def m_law_same_netlist_b11 (p_actual : ((List Str) × (List Str) × (List (Str × Str × (List Str))))) (p_expected : ((List Str) × (List Str) × (List (Str × Str × (List Str))))) (p_k : Int) (s_ : Unit) : Res (Tn (Unit) Bool) :=
  match s_ with
 | () =>
  (Res.ite (orM (notM (Res.bind (idxM (Res.bind (.ok p_actual) fun a => .ok (len3 a)) (.ok p_k)) fun _ => .ok true)) (neM (Res.bind (idxM (Res.bind (.ok p_actual) fun a => .ok (len3 a)) (.ok p_k)) .ok) (Res.bind (idxM (Res.bind (.ok p_expected) fun a => .ok (len3 a)) (.ok p_k)) .ok)))
  (Res.bind (.ok false) fun r => .ok (.rt r))
  (.ok (.nx ())))
def m_law_same_netlist (p_actual : ((List Str) × (List Str) × (List (Str × Str × (List Str))))) (p_expected : ((List Str) × (List Str) × (List (Str × Str × (List Str))))) : Res Bool :=
  (Res.ite (orM (notM (Res.bind (.ok p_actual) fun _ => .ok true)) (neM (Res.bind (.ok p_actual) fun _ => .ok (3 : Int)) (.ok (3 : Int))))
  (.ok false)
  (Res.bind (Res.bind (rng1M (.ok (3 : Int))) fun xs => forB (m_law_same_netlist_b11 p_actual p_expected) xs ()) (Lp.el (fun (s_ : Unit) => match s_ with
 | () =>
  (Res.bind (Res.bind (catM (Res.bind (.ok p_actual) fun a => .ok a.1) (Res.bind (.ok p_actual) fun a => .ok a.2.1)) fun xs => forB m_law_same_netlist_b10 xs ()) (Lp.el (fun (s_ : Unit) => match s_ with
 | () =>
  (Res.bind (Res.bind (Res.bind (.ok p_actual) fun a => .ok a.2.2) fun xs => forB m_law_same_netlist_b9 xs ()) (Lp.el (fun (s_ : Unit) => match s_ with
 | () =>
  (eqQM ((qeP (qeC (qeT qeS) (qeC (qeT qeS) (qe1 (qeT (qeP (qeC qeS (qeC qeS (qe1 (qeT qeS))))))))))).ok (.ok p_actual) (.ok p_expected))) (fun r => .ok r)))) (fun r => .ok r)))) (fun r => .ok r))))
def m_law_same_table_b8  (p_pair : (Int × Int)) (s_ : Unit) : Res (Tn (Unit) Bool) :=
  match s_ with
 | () =>
  (Res.ite (orM (notM (Res.bind (.ok p_pair) fun _ => .ok true)) (neM (Res.bind (.ok p_pair) fun _ => .ok (2 : Int)) (.ok (2 : Int))))
  (Res.bind (.ok false) fun r => .ok (.rt r))
  (Res.ite (orM (notM (Res.bind (someM (Res.bind (.ok p_pair) fun a => .ok a.1)) fun a => m_law_is_integer a)) (notM (Res.bind (someM (Res.bind (.ok p_pair) fun a => .ok a.2)) fun a => m_law_is_integer a)))
  (Res.bind (.ok false) fun r => .ok (.rt r))
  (.ok (.nx ()))))
def m_law_same_table_b9  (p_row : (List (Int × Int))) (s_ : Unit) : Res (Tn (Unit) Bool) :=
  match s_ with
 | () =>
  (Res.ite (notM (Res.bind (.ok p_row) fun _ => .ok true))
  (Res.bind (.ok false) fun r => .ok (.rt r))
  (Res.bind (Res.bind (.ok p_row) fun xs => forB m_law_same_table_b8 xs ()) (Lp.el (fun (s_ : Unit) => match s_ with
 | () =>
  (.ok (.nx ()))) (fun r => .ok (.rt r)))))
def m_law_same_table (p_actual : (Int × Int × (List (List (Int × Int))))) (p_expected : (Int × Int × (List (List (Int × Int))))) : Res Bool :=
  (Res.ite (orM (notM (Res.bind (.ok p_actual) fun _ => .ok true)) (orM (neM (Res.bind (.ok p_actual) fun _ => .ok (3 : Int)) (.ok (3 : Int))) (notM (Res.bind (Res.bind (.ok p_actual) fun a => .ok a.2.2) fun _ => .ok true))))
  (.ok false)
  (Res.ite (orM (notM (Res.bind (someM (Res.bind (.ok p_actual) fun a => .ok a.1)) fun a => m_law_is_integer a)) (notM (Res.bind (someM (Res.bind (.ok p_actual) fun a => .ok a.2.1)) fun a => m_law_is_integer a)))
  (.ok false)
  (Res.bind (Res.bind (Res.bind (.ok p_actual) fun a => .ok a.2.2) fun xs => forB m_law_same_table_b9 xs ()) (Lp.el (fun (s_ : Unit) => match s_ with
 | () =>
  (eqM (.ok p_actual) (.ok p_expected))) (fun r => .ok r)))))
def m_law_joined_tables_b10 (p_second : (Int × Int × (List (List (Int × Int))))) (p_count : Int) (p_state : Int) (x_ : (Int × Int)) (p_row : (List (Int × Int))) : Res ((List (Int × Int))) :=
  match x_ with
 | (p_left, p_middle) =>
  (Res.bind (idxM (idxM (Res.bind (.ok p_second) fun a => .ok a.2.2) (fdivM (.ok p_state) (.ok p_count))) (.ok p_middle)) fun (p : (Int × Int)) => match p with
 | (p_right, p_answer) =>
  (appM p_row (pairM (addM (.ok p_left) (mulM (.ok p_count) (.ok p_right))) (.ok p_answer)) fun p_row =>
  (.ok p_row)))
def m_law_joined_tables_b12 (p_first : (Int × Int × (List (List (Int × Int))))) (p_second : (Int × Int × (List (List (Int × Int))))) (p_count : Int) (p_state : Int) (p_rows : (List (List (Int × Int)))) : Res ((List (List (Int × Int)))) :=
  (Res.bind (.ok []) fun (p_row : (List (Int × Int))) =>
  (Res.bind (Res.bind (idxM (Res.bind (.ok p_first) fun a => .ok a.2.2) (modM (Res.bind (.ok p_state) .ok) (.ok p_count))) fun xs => forM (m_law_joined_tables_b10 p_second p_count p_state) xs p_row) (fun (p_row : (List (Int × Int))) => (appM p_rows (Res.bind (.ok p_row) .ok) fun p_rows =>
  (.ok p_rows)))))
def m_law_joined_tables (p_first : (Int × Int × (List (List (Int × Int))))) (p_second : (Int × Int × (List (List (Int × Int))))) : Res (Int × Int × (List (List (Int × Int)))) :=
  (Res.bind (lenM (Res.bind (.ok p_first) fun a => .ok a.2.2)) fun (p_count : Int) =>
  (Res.bind (.ok []) fun (p_rows : (List (List (Int × Int)))) =>
  (Res.bind (Res.bind (rng1M (mulM (.ok p_count) (lenM (Res.bind (.ok p_second) fun a => .ok a.2.2)))) fun xs => forM (m_law_joined_tables_b12 p_first p_second p_count) xs p_rows) (fun (p_rows : (List (List (Int × Int)))) => (pairM (Res.bind (.ok p_first) fun a => .ok a.1) (pairM (Res.bind (.ok p_second) fun a => .ok a.2.1) (Res.bind (.ok p_rows) .ok)))))))
def m_law_drawn_b8 (p_script : (List Int)) (p_at : Int) (p_inputs : Int) (p_outputs : Int) (p_states : Int) (p_k : Int) (p_rows : (List (List (Int × Int)))) : Res ((List (List (Int × Int)))) :=
  (Res.bind (Res.bind (pairM (Res.bind (pairM (.ok p_script) (addM (.ok p_at) (.ok p_k))) fun a => m_law_far (a.1) (a.2)) (repM (consM (.ok (64 : Int)) (consM (.ok (64 : Int)) (.ok []))) (shlM (.ok (1 : Int)) (.ok p_inputs)))) fun a => m_law_parts (a.1) (a.2)) fun (p_parts : (List Int)) =>
  (Res.bind (lcB (fun (x4 : Int) => .ok true) (fun (x4 : Int) => (pairM (modM (Res.bind (idxM (.ok p_parts) (mulM (.ok (2 : Int)) (.ok x4))) .ok) (.ok p_states)) (modM (Res.bind (idxM (.ok p_parts) (addM (mulM (.ok (2 : Int)) (.ok x4)) (.ok (1 : Int)))) .ok) (shlM (.ok (1 : Int)) (.ok p_outputs))))) (rng1M (shlM (.ok (1 : Int)) (.ok p_inputs)))) fun (p_row : (List (Int × Int))) =>
  (appM p_rows (Res.bind (.ok p_row) .ok) fun p_rows =>
  (.ok p_rows))))
def m_law_drawn (p_script : (List Int)) (p_at : Int) (p_inputs : Int) (p_outputs : Int) (p_states : Int) : Res (Int × Int × (List (List (Int × Int)))) :=
  (Res.bind (.ok []) fun (p_rows : (List (List (Int × Int)))) =>
  (Res.bind (Res.bind (rng1M (.ok p_states)) fun xs => forM (m_law_drawn_b8 p_script p_at p_inputs p_outputs p_states) xs p_rows) (fun (p_rows : (List (List (Int × Int)))) => (pairM (.ok p_inputs) (pairM (.ok p_outputs) (Res.bind (.ok p_rows) .ok))))))
def m_law_padded_b7  (p_k : Int) (s_ : (List (Str × Str × (List Str))) × Str) : Res ((List (Str × Str × (List Str))) × Str) :=
  match s_ with
 | (p_gates, p_net) =>
  (appM p_gates (pairM (addSM (.ok ("pad" : Str)) (strIM (.ok p_k))) (pairM (.ok ("not" : Str)) (consM (.ok p_net) (.ok [])))) fun p_gates =>
  (Res.bind (addSM (.ok ("pad" : Str)) (strIM (.ok p_k))) fun (p_net : Str) =>
  (.ok (p_gates, p_net))))
def m_law_padded (p_netlist : ((List Str) × (List Str) × (List (Str × Str × (List Str))))) (p_count : Int) : Res ((List Str) × (List Str) × (List (Str × Str × (List Str)))) :=
  (Res.bind (Res.bind (Res.bind (.ok p_netlist) fun a => .ok a.2.2) .ok) fun (p_gates : (List (Str × Str × (List Str)))) =>
  (Res.bind (idxM (Res.bind (.ok p_netlist) fun a => .ok a.2.1) (.ok (0 : Int))) fun (p_net : Str) =>
  (Res.bind (Res.bind (rng1M (.ok p_count)) fun xs => forM m_law_padded_b7 xs (p_gates, p_net)) (fun (s_ : (List (Str × Str × (List Str))) × Str) => match s_ with
 | (p_gates, p_net) =>
  (pairM (Res.bind (.ok p_netlist) fun a => .ok a.1) (pairM (catM (consM (.ok p_net) (.ok [])) (sliceM (Res.bind (.ok p_netlist) fun a => .ok a.2.1) (someM (.ok (1 : Int))) (.ok none))) (Res.bind (.ok p_gates) .ok)))))))
def m_law_renamed (p_gates : (List (Str × Str × (List Str)))) (p_names : (List (Str × Str))) : Res (List (Str × Str × (List Str))) :=
  (lcB (fun (x1 : (Str × Str × (List Str))) => .ok true) (fun (x1 : (Str × Str × (List Str))) => (pairM (Res.bind (.ok p_names) fun xs => dgetM xs (Res.bind (.ok x1) fun a => .ok a.1)) (pairM (Res.bind (.ok x1) fun a => .ok a.2.1) (Res.bind (lcB (fun (x2 : Str) => .ok true) (fun (x2 : Str) => (Res.bind (.ok p_names) fun xs => dgetM xs (.ok x2))) (Res.bind (.ok x1) fun a => .ok a.2.2)) .ok)))) (.ok p_gates))
def m_law_joined_b15 (p_second : ((List Str) × (List Str) × (List (Str × Str × (List Str))))) (p_k : Int) (p_others : (List (Str × Str))) : Res ((List (Str × Str))) :=
  (dputM p_others (Res.bind (idxM (Res.bind (.ok p_second) fun a => .ok a.2.2) (.ok p_k)) fun a => .ok a.1) (addSM (.ok ("b" : Str)) (strIM (.ok p_k))) fun p_others =>
  (.ok p_others))
def m_law_joined_b16 (p_first : ((List Str) × (List Str) × (List (Str × Str × (List Str))))) (p_second : ((List Str) × (List Str) × (List (Str × Str × (List Str))))) (p_names : (List (Str × Str))) (p_k : Int) (p_others : (List (Str × Str))) : Res ((List (Str × Str))) :=
  (dputM p_others (idxM (Res.bind (.ok p_second) fun a => .ok a.1) (.ok p_k)) (Res.bind (.ok p_names) fun xs => dgetM xs (idxM (Res.bind (.ok p_first) fun a => .ok a.2.1) (.ok p_k))) fun p_others =>
  (.ok p_others))
def m_law_joined_b17  (p_net : Str) (p_names : (List (Str × Str))) : Res ((List (Str × Str))) :=
  (dputM p_names (.ok p_net) (addSM (.ok ("a" : Str)) (strIM (.ok (p_names.length : Int)))) fun p_names =>
  (.ok p_names))
def m_law_joined (p_first : ((List Str) × (List Str) × (List (Str × Str × (List Str))))) (p_second : ((List Str) × (List Str) × (List (Str × Str × (List Str))))) : Res ((List Str) × (List Str) × (List (Str × Str × (List Str)))) :=
  (Res.bind (.ok []) fun (p_names : (List (Str × Str))) =>
  (Res.bind (Res.bind (catM (Res.bind (Res.bind (.ok p_first) fun a => .ok a.1) .ok) (lcB (fun (x2 : (Str × Str × (List Str))) => .ok true) (fun (x2 : (Str × Str × (List Str))) => (Res.bind (.ok x2) fun a => .ok a.1)) (Res.bind (.ok p_first) fun a => .ok a.2.2))) fun xs => forM m_law_joined_b17 xs p_names) (fun (p_names : (List (Str × Str))) => (Res.bind (.ok []) fun (p_others : (List (Str × Str))) =>
  (Res.bind (Res.bind (rng1M (lenM (Res.bind (.ok p_second) fun a => .ok a.1))) fun xs => forM (m_law_joined_b16 p_first p_second p_names) xs p_others) (fun (p_others : (List (Str × Str))) => (Res.bind (Res.bind (rng1M (lenM (Res.bind (.ok p_second) fun a => .ok a.2.2))) fun xs => forM (m_law_joined_b15 p_second) xs p_others) (fun (p_others : (List (Str × Str))) => (Res.bind (catM (Res.bind (pairM (Res.bind (.ok p_first) fun a => .ok a.2.2) (.ok p_names)) fun a => m_law_renamed (a.1) (a.2)) (Res.bind (pairM (Res.bind (.ok p_second) fun a => .ok a.2.2) (.ok p_others)) fun a => m_law_renamed (a.1) (a.2))) fun (p_gates : (List (Str × Str × (List Str)))) =>
  (pairM (Res.bind (lcB (fun (x13 : Str) => .ok true) (fun (x13 : Str) => (Res.bind (.ok p_names) fun xs => dgetM xs (.ok x13))) (Res.bind (.ok p_first) fun a => .ok a.1)) .ok) (pairM (Res.bind (lcB (fun (x14 : Str) => .ok true) (fun (x14 : Str) => (Res.bind (.ok p_others) fun xs => dgetM xs (.ok x14))) (Res.bind (.ok p_second) fun a => .ok a.2.1)) .ok) (Res.bind (.ok p_gates) .ok))))))))))))
def m_law_refused (p_nets : Bool) (p_first : (Sum ((List Str) × (List Str) × (List (Str × Str × (List Str)))) (Int × Int × (List (List (Int × Int)))))) (p_second : (Sum ((List Str) × (List Str) × (List (Str × Str × (List Str)))) (Int × Int × (List (List (Int × Int)))))) (p_large : Bool) : Res Bool :=
  (tryM (Res.ite (.ok p_nets)
  (Res.bind (Res.bind (pairM (getlM (.ok p_first)) (getlM (.ok p_second))) fun a => m_join_netlists (a.1) (a.2)) fun _ =>
  (.ok ()))
  (Res.bind (Res.bind (pairM (getrM (.ok p_first)) (getrM (.ok p_second))) fun a => m_join_tables (a.1) (a.2)) fun _ =>
  (.ok ()))) (errG 2 fun k1 =>
  (Res.ite (.ok p_large)
  (.ok (decide (k1 = 1)))
  (.ok (decide (k1 = 0))))) (fun _ =>
  (.ok false)))
def m_law_right_netlists (p_first : ((List Str) × (List Str) × (List (Str × Str × (List Str))))) (p_second : ((List Str) × (List Str) × (List (Str × Str × (List Str))))) (p_walk : Bool) : Res Bool :=
  (Res.ite (neM (lenM (Res.bind (.ok p_first) fun a => .ok a.2.1)) (lenM (Res.bind (.ok p_second) fun a => .ok a.1)))
  (Res.bind (pairM (.ok true) (pairM (inlM (.ok p_first)) (pairM (inlM (.ok p_second)) (.ok false)))) fun a => m_law_refused (a.1) (a.2.1) (a.2.2.1) (a.2.2.2))
  (Res.bind (Res.bind (pairM (.ok p_first) (.ok p_second)) fun a => m_law_joined (a.1) (a.2)) fun (p_due : ((List Str) × (List Str) × (List (Str × Str × (List Str))))) =>
  (Res.ite (orM (gtM (lenM (Res.bind (.ok p_due) fun a => .ok a.2.2)) (.ok (40 : Int))) (gtM (lenM (lcB (fun (x3 : (Str × Str × (List Str))) => (eqM (Res.bind (.ok x3) fun a => .ok a.2.1) (.ok ("latch" : Str)))) (fun (x3 : (Str × Str × (List Str))) => (.ok (1 : Int))) (Res.bind (.ok p_due) fun a => .ok a.2.2))) (.ok (4 : Int))))
  (Res.bind (pairM (.ok true) (pairM (inlM (.ok p_first)) (pairM (inlM (.ok p_second)) (.ok true)))) fun a => m_law_refused (a.1) (a.2.1) (a.2.2.1) (a.2.2.2))
  (Res.bind (Res.bind (pairM (.ok p_first) (.ok p_second)) fun a => m_join_netlists (a.1) (a.2)) fun (p_told : ((List Str) × (List Str) × (List (Str × Str × (List Str))))) =>
  (Res.ite (notM (Res.bind (pairM (.ok p_told) (.ok p_due)) fun a => m_law_same_netlist (a.1) (a.2)))
  (.ok false)
  (Res.ite (notM (.ok p_walk))
  (.ok true)
  (eqM (Res.bind (.ok p_told) fun a => m_law_net_table a) (Res.bind (pairM (Res.bind (.ok p_first) fun a => m_law_net_table a) (Res.bind (.ok p_second) fun a => m_law_net_table a)) fun a => m_law_joined_tables (a.1) (a.2)))))))))
def m_law_right_tables (p_first : (Int × Int × (List (List (Int × Int))))) (p_second : (Int × Int × (List (List (Int × Int))))) : Res Bool :=
  (Res.ite (neM (Res.bind (.ok p_first) fun a => .ok a.2.1) (Res.bind (.ok p_second) fun a => .ok a.1))
  (Res.bind (pairM (.ok false) (pairM (inrM (.ok p_first)) (pairM (inrM (.ok p_second)) (.ok false)))) fun a => m_law_refused (a.1) (a.2.1) (a.2.2.1) (a.2.2.2))
  (Res.bind (mulM (lenM (Res.bind (.ok p_first) fun a => .ok a.2.2)) (lenM (Res.bind (.ok p_second) fun a => .ok a.2.2))) fun (p_states : Int) =>
  (Res.ite (orM (gtM (.ok p_states) (.ok (32 : Int))) (gtM (mulM (.ok p_states) (shlM (.ok (1 : Int)) (Res.bind (.ok p_first) fun a => .ok a.1))) (.ok (1024 : Int))))
  (Res.bind (pairM (.ok false) (pairM (inrM (.ok p_first)) (pairM (inrM (.ok p_second)) (.ok true)))) fun a => m_law_refused (a.1) (a.2.1) (a.2.2.1) (a.2.2.2))
  (Res.bind (pairM (Res.bind (pairM (.ok p_first) (.ok p_second)) fun a => m_join_tables (a.1) (a.2)) (Res.bind (pairM (.ok p_first) (.ok p_second)) fun a => m_law_joined_tables (a.1) (a.2))) fun a => m_law_same_table (a.1) (a.2)))))
def m_law_j7 (p_script : (List Int)) (p_head : (List Int)) (p_more : (List Int)) (p_one : ((List Str) × (List Str) × (List (Str × Str × (List Str))))) (p_two : ((List Str) × (List Str) × (List (Str × Str × (List Str))))) (s_ : Unit) : Res Bool :=
  match s_ with
 | () =>
  (Res.ite (neM (idxM (.ok p_head) (.ok (10 : Int))) (.ok (0 : Int)))
  (Res.bind (pairM (Res.bind (.ok p_one) fun a => m_law_net_table a) (Res.bind (.ok p_two) fun a => m_law_net_table a)) fun a => m_law_right_tables (a.1) (a.2))
  (Res.bind (Res.bind (pairM (.ok p_script) (pairM (.ok (0 : Int)) (pairM (idxM (.ok p_more) (.ok (0 : Int))) (pairM (addM (.ok (1 : Int)) (idxM (.ok p_more) (.ok (1 : Int)))) (addM (.ok (3 : Int)) (idxM (.ok p_more) (.ok (2 : Int)))))))) fun a => m_law_drawn (a.1) (a.2.1) (a.2.2.1) (a.2.2.2.1) (a.2.2.2.2)) fun (p_first : (Int × Int × (List (List (Int × Int))))) =>
  (Res.bind (pairM (.ok p_first) (Res.bind (pairM (.ok p_script) (pairM (.ok (8 : Int)) (pairM (addM (addM (.ok (1 : Int)) (idxM (.ok p_more) (.ok (1 : Int)))) (b2iM (eqM (idxM (.ok p_head) (.ok (4 : Int))) (.ok (0 : Int))))) (pairM (addM (.ok (1 : Int)) (idxM (.ok p_more) (.ok (4 : Int)))) (addM (.ok (3 : Int)) (idxM (.ok p_more) (.ok (3 : Int)))))))) fun a => m_law_drawn (a.1) (a.2.1) (a.2.2.1) (a.2.2.2.1) (a.2.2.2.2))) fun a => m_law_right_tables (a.1) (a.2))))
def m_law (p_script : (List Int)) : Res Bool :=
  (Res.bind (Res.bind (pairM (Res.bind (pairM (.ok p_script) (.ok (20 : Int))) fun a => m_law_far (a.1) (a.2)) (consM (.ok (3 : Int)) (consM (.ok (4 : Int)) (consM (.ok (3 : Int)) (consM (.ok (3 : Int)) (consM (.ok (8 : Int)) (consM (.ok (4 : Int)) (consM (.ok (3 : Int)) (consM (.ok (3 : Int)) (consM (.ok (4 : Int)) (consM (.ok (4 : Int)) (consM (.ok (3 : Int)) (.ok []))))))))))))) fun a => m_law_parts (a.1) (a.2)) fun (p_head : (List Int)) =>
  (Res.bind (Res.bind (pairM (Res.bind (pairM (.ok p_script) (.ok (21 : Int))) fun a => m_law_far (a.1) (a.2)) (consM (.ok (7 : Int)) (consM (.ok (3 : Int)) (consM (.ok (4 : Int)) (consM (.ok (6 : Int)) (consM (.ok (3 : Int)) (consM (.ok (40 : Int)) (.ok [])))))))) fun a => m_law_parts (a.1) (a.2)) fun (p_more : (List Int)) =>
  (Res.bind (Res.bind (pairM (.ok p_script) (pairM (.ok (0 : Int)) (consM (idxM (.ok p_head) (.ok (0 : Int))) (consM (idxM (.ok p_head) (.ok (1 : Int))) (consM (addM (.ok (1 : Int)) (idxM (.ok p_head) (.ok (2 : Int)))) (consM (addM (.ok (1 : Int)) (idxM (.ok p_head) (.ok (3 : Int)))) (.ok []))))))) fun a => m_law_netlist (a.1) (a.2.1) (a.2.2)) fun (p_one : ((List Str) × (List Str) × (List (Str × Str × (List Str))))) =>
  (Res.bind (addM (addM (.ok (1 : Int)) (idxM (.ok p_head) (.ok (3 : Int)))) (b2iM (eqM (idxM (.ok p_head) (.ok (4 : Int))) (.ok (0 : Int))))) fun (p_inputs : Int) =>
  (Res.bind (Res.bind (pairM (.ok p_script) (pairM (.ok (5 : Int)) (consM (.ok p_inputs) (consM (idxM (.ok p_head) (.ok (5 : Int))) (consM (addM (.ok (1 : Int)) (idxM (.ok p_head) (.ok (6 : Int)))) (consM (addM (.ok (1 : Int)) (idxM (.ok p_head) (.ok (7 : Int)))) (.ok []))))))) fun a => m_law_netlist (a.1) (a.2.1) (a.2.2)) fun (p_two : ((List Str) × (List Str) × (List (Str × Str × (List Str))))) =>
  (Res.ite (eqM (idxM (.ok p_head) (.ok (8 : Int))) (.ok (0 : Int)))
  (Res.bind (subM (subM (addM (.ok (39 : Int)) (idxM (.ok p_head) (.ok (9 : Int)))) (lenM (Res.bind (.ok p_one) fun a => .ok a.2.2))) (lenM (Res.bind (.ok p_two) fun a => .ok a.2.2))) fun (p_count : Int) =>
  (Res.bind (min3M (.ok p_count) (idxM (.ok p_more) (.ok (5 : Int))) (subM (.ok (40 : Int)) (lenM (Res.bind (.ok p_one) fun a => .ok a.2.2)))) fun (p_part : Int) =>
  (Res.bind (min2M (subM (.ok p_count) (.ok p_part)) (subM (.ok (40 : Int)) (lenM (Res.bind (.ok p_two) fun a => .ok a.2.2)))) fun (p_rest : Int) =>
  (Res.ite (notM (Res.bind (pairM (Res.bind (pairM (.ok p_one) (subM (.ok p_count) (.ok p_rest))) fun a => m_law_padded (a.1) (a.2)) (pairM (Res.bind (pairM (.ok p_two) (.ok p_rest)) fun a => m_law_padded (a.1) (a.2)) (.ok false))) fun a => m_law_right_netlists (a.1) (a.2.1) (a.2.2)))
  (.ok false)
  (m_law_j7 p_script p_head p_more p_one p_two ())))))
  (Res.ite (notM (Res.bind (pairM (.ok p_one) (pairM (.ok p_two) (.ok true))) fun a => m_law_right_netlists (a.1) (a.2.1) (a.2.2)))
  (.ok false)
  (m_law_j7 p_script p_head p_more p_one p_two ()))))))))
end G89

namespace G89
open PySem PySem.Spec L2 Mw
def top (i : Nat) : Stmt := PySem.Challenge.pw_pinsalone_k89_joined_machines.main.body.getD i (.Pass ⟨0, 0, 0, 0⟩)
abbrev s_numbered_names : Stmt := top 7
abbrev N_numbered_names : List Str := ["netlist", "names", "name", "gate"]
theorem sc_numbered_names : FnScope N_numbered_names ["netlist"] (defScope s_numbered_names) := ⟨rfl, rfl, rfl, by decide +kernel, rfl, by decide +kernel, by decide +kernel⟩
abbrev s_renamed : Stmt := top 8
abbrev N_renamed : List Str := ["names", "nets", "net"]
theorem sc_renamed : FnScope N_renamed ["names", "nets"] (defScope s_renamed) := ⟨rfl, rfl, rfl, by decide +kernel, rfl, by decide +kernel, by decide +kernel⟩
abbrev s_renamed_gates : Stmt := top 9
abbrev N_renamed_gates : List Str := ["netlist", "names", "name", "kind", "parts"]
theorem sc_renamed_gates : FnScope N_renamed_gates ["netlist", "names"] (defScope s_renamed_gates) := ⟨rfl, rfl, rfl, by decide +kernel, rfl, by decide +kernel, by decide +kernel⟩
abbrev s_second_names : Stmt := top 10
abbrev N_second_names : List Str := ["second", "names", "sources", "others", "at", "gate", "name", "source"]
theorem sc_second_names : FnScope N_second_names ["second", "names", "sources"] (defScope s_second_names) := ⟨rfl, rfl, rfl, by decide +kernel, rfl, by decide +kernel, by decide +kernel⟩
abbrev s_letter_count : Stmt := top 15
abbrev N_letter_count : List Str := ["table"]
theorem sc_letter_count : FnScope N_letter_count ["table"] (defScope s_letter_count) := ⟨rfl, rfl, rfl, by decide +kernel, rfl, by decide +kernel, by decide +kernel⟩
abbrev s_state_count : Stmt := top 16
abbrev N_state_count : List Str := ["table"]
theorem sc_state_count : FnScope N_state_count ["table"] (defScope s_state_count) := ⟨rfl, rfl, rfl, by decide +kernel, rfl, by decide +kernel, by decide +kernel⟩
abbrev s_step : Stmt := top 17
abbrev N_step : List Str := ["table", "state", "letter"]
theorem sc_step : FnScope N_step ["table", "state", "letter"] (defScope s_step) := ⟨rfl, rfl, rfl, by decide +kernel, rfl, by decide +kernel, by decide +kernel⟩
abbrev s_check_gates : Stmt := top 19
abbrev N_check_gates : List Str := ["gates", "gate"]
theorem sc_check_gates : FnScope N_check_gates ["gates"] (defScope s_check_gates) := ⟨rfl, rfl, rfl, by decide +kernel, rfl, by decide +kernel, by decide +kernel⟩
abbrev s_join_netlists : Stmt := top 20
abbrev N_join_netlists : List Str := ["first", "second", "names", "others", "gates"]
theorem sc_join_netlists : FnScope N_join_netlists ["first", "second"] (defScope s_join_netlists) := ⟨rfl, rfl, rfl, by decide +kernel, rfl, by decide +kernel, by decide +kernel⟩
abbrev s_join_tables : Stmt := top 21
abbrev N_join_tables : List Str := ["first", "second", "states", "rows", "b", "row", "joined", "left", "middle", "right", "answer"]
theorem sc_join_tables : FnScope N_join_tables ["first", "second"] (defScope s_join_tables) := ⟨rfl, rfl, rfl, by decide +kernel, rfl, by decide +kernel, by decide +kernel⟩
abbrev s_law_far : Stmt := top 23
abbrev N_law_far : List Str := ["script", "k"]
theorem sc_law_far : FnScope N_law_far ["script", "k"] (defScope s_law_far) := ⟨rfl, rfl, rfl, by decide +kernel, rfl, by decide +kernel, by decide +kernel⟩
abbrev s_law_parts : Stmt := top 24
abbrev N_law_parts : List Str := ["cell", "sizes", "parts", "rest", "k", "mixed"]
theorem sc_law_parts : FnScope N_law_parts ["cell", "sizes"] (defScope s_law_parts) := ⟨rfl, rfl, rfl, by decide +kernel, rfl, by decide +kernel, by decide +kernel⟩
abbrev s_law_is_integer : Stmt := top 25
abbrev N_law_is_integer : List Str := ["actual"]
theorem sc_law_is_integer : FnScope N_law_is_integer ["actual"] (defScope s_law_is_integer) := ⟨rfl, rfl, rfl, by decide +kernel, rfl, by decide +kernel, by decide +kernel⟩
abbrev s_law_bits : Stmt := top 26
abbrev N_law_bits : List Str := ["number", "count", "k"]
theorem sc_law_bits : FnScope N_law_bits ["number", "count"] (defScope s_law_bits) := ⟨rfl, rfl, rfl, by decide +kernel, rfl, by decide +kernel, by decide +kernel⟩
abbrev s_law_gate : Stmt := top 27
abbrev N_law_gate : List Str := ["name", "parts", "nets", "kinds", "kind", "count", "k"]
theorem sc_law_gate : FnScope N_law_gate ["name", "parts", "nets"] (defScope s_law_gate) := ⟨rfl, rfl, rfl, by decide +kernel, rfl, by decide +kernel, by decide +kernel⟩
abbrev s_law_netlist : Stmt := top 28
abbrev N_law_netlist : List Str := ["script", "at", "sizes", "tail", "lead", "k", "nets", "order", "parts", "near", "rows", "turn", "outputs"]
theorem sc_law_netlist : FnScope N_law_netlist ["script", "at", "sizes"] (defScope s_law_netlist) := ⟨rfl, rfl, rfl, by decide +kernel, rfl, by decide +kernel, by decide +kernel⟩
abbrev s_law_gate_value : Stmt := top 29
abbrev N_law_gate_value : List Str := ["kind", "bits", "ones"]
theorem sc_law_gate_value : FnScope N_law_gate_value ["kind", "bits"] (defScope s_law_gate_value) := ⟨rfl, rfl, rfl, by decide +kernel, rfl, by decide +kernel, by decide +kernel⟩
abbrev s_law_ends : Stmt := top 30
abbrev N_law_ends : List Str := ["netlist", "bits", "gate", "latches", "names", "values", "k", "turn", "left", "known", "name"]
theorem sc_law_ends : FnScope N_law_ends ["netlist", "bits"] (defScope s_law_ends) := ⟨rfl, rfl, rfl, by decide +kernel, rfl, by decide +kernel, by decide +kernel⟩
abbrev s_law_net_table : Stmt := top 31
abbrev N_law_net_table : List Str := ["netlist", "inputs", "latches", "outputs", "rows", "state", "row", "letter", "ends", "answer", "gate", "k"]
theorem sc_law_net_table : FnScope N_law_net_table ["netlist"] (defScope s_law_net_table) := ⟨rfl, rfl, rfl, by decide +kernel, rfl, by decide +kernel, by decide +kernel⟩
abbrev s_law_same_netlist : Stmt := top 32
abbrev N_law_same_netlist : List Str := ["actual", "expected", "k", "name", "gate"]
theorem sc_law_same_netlist : FnScope N_law_same_netlist ["actual", "expected"] (defScope s_law_same_netlist) := ⟨rfl, rfl, rfl, by decide +kernel, rfl, by decide +kernel, by decide +kernel⟩
abbrev s_law_same_table : Stmt := top 33
abbrev N_law_same_table : List Str := ["actual", "expected", "row", "pair"]
theorem sc_law_same_table : FnScope N_law_same_table ["actual", "expected"] (defScope s_law_same_table) := ⟨rfl, rfl, rfl, by decide +kernel, rfl, by decide +kernel, by decide +kernel⟩
abbrev s_law_joined_tables : Stmt := top 34
abbrev N_law_joined_tables : List Str := ["first", "second", "count", "rows", "state", "row", "left", "middle", "right", "answer"]
theorem sc_law_joined_tables : FnScope N_law_joined_tables ["first", "second"] (defScope s_law_joined_tables) := ⟨rfl, rfl, rfl, by decide +kernel, rfl, by decide +kernel, by decide +kernel⟩
abbrev s_law_drawn : Stmt := top 35
abbrev N_law_drawn : List Str := ["script", "at", "inputs", "outputs", "states", "rows", "k", "parts", "row", "i"]
theorem sc_law_drawn : FnScope N_law_drawn ["script", "at", "inputs", "outputs", "states"] (defScope s_law_drawn) := ⟨rfl, rfl, rfl, by decide +kernel, rfl, by decide +kernel, by decide +kernel⟩
abbrev s_law_padded : Stmt := top 36
abbrev N_law_padded : List Str := ["netlist", "count", "gates", "net", "k"]
theorem sc_law_padded : FnScope N_law_padded ["netlist", "count"] (defScope s_law_padded) := ⟨rfl, rfl, rfl, by decide +kernel, rfl, by decide +kernel, by decide +kernel⟩
abbrev s_law_renamed : Stmt := top 37
abbrev N_law_renamed : List Str := ["gates", "names", "gate", "net"]
theorem sc_law_renamed : FnScope N_law_renamed ["gates", "names"] (defScope s_law_renamed) := ⟨rfl, rfl, rfl, by decide +kernel, rfl, by decide +kernel, by decide +kernel⟩
abbrev s_law_joined : Stmt := top 38
abbrev N_law_joined : List Str := ["first", "second", "names", "net", "others", "k", "gates", "gate"]
theorem sc_law_joined : FnScope N_law_joined ["first", "second"] (defScope s_law_joined) := ⟨rfl, rfl, rfl, by decide +kernel, rfl, by decide +kernel, by decide +kernel⟩
abbrev s_law_refused : Stmt := top 39
abbrev N_law_refused : List Str := ["nets", "first", "second", "large", "e"]
theorem sc_law_refused : FnScope N_law_refused ["nets", "first", "second", "large"] (defScope s_law_refused) := ⟨rfl, rfl, rfl, by decide +kernel, rfl, by decide +kernel, by decide +kernel⟩
abbrev s_law_right_netlists : Stmt := top 40
abbrev N_law_right_netlists : List Str := ["first", "second", "walk", "due", "told", "gate"]
theorem sc_law_right_netlists : FnScope N_law_right_netlists ["first", "second", "walk"] (defScope s_law_right_netlists) := ⟨rfl, rfl, rfl, by decide +kernel, rfl, by decide +kernel, by decide +kernel⟩
abbrev s_law_right_tables : Stmt := top 41
abbrev N_law_right_tables : List Str := ["first", "second", "states"]
theorem sc_law_right_tables : FnScope N_law_right_tables ["first", "second"] (defScope s_law_right_tables) := ⟨rfl, rfl, rfl, by decide +kernel, rfl, by decide +kernel, by decide +kernel⟩
abbrev s_law : Stmt := top 42
abbrev N_law : List Str := ["script", "head", "more", "one", "inputs", "two", "count", "part", "rest", "first"]
theorem sc_law : FnScope N_law ["script"] (defScope s_law) := ⟨rfl, rfl, rfl, by decide +kernel, rfl, by decide +kernel, by decide +kernel⟩
structure Txt (K : PySem.W.Frag) (mg : Str → Option Value) (cl : Nat → Addr) : Prop where
  n_bool : mg "bool" = none
  n_enumerate : mg "enumerate" = none
  n_int : mg "int" = none
  n_isinstance : mg "isinstance" = none
  n_len : mg "len" = none
  n_list : mg "list" = none
  n_min : mg "min" = none
  n_range : mg "range" = none
  n_str : mg "str" = none
  n_sum : mg "sum" = none
  n_tuple : mg "tuple" = none
  n_zip : mg "zip" = none
  c_MOST_GATES : ∃ t, mg "MOST_GATES" = some (.int (40) t)
  c_MOST_LATCHES : ∃ t, mg "MOST_LATCHES" = some (.int (4) t)
  c_MOST_PAIRS : ∃ t, mg "MOST_PAIRS" = some (.int (1024) t)
  c_MOST_STATES : ∃ t, mg "MOST_STATES" = some (.int (32) t)
  c_ROWS : ∃ t, mg "ROWS" = some (.int (2) t)
  ec_0 : ExcC K (cl 0)
  ex_0 : PySem.W.exmOne K (.ref (cl 0)) (.ref (cl 2)) = some true
  kit_0_0 : PySem.W.kitOne K (.ref (cl 0)) (.ref (cl 0)) = some true
  kit_0_1 : PySem.W.kitOne K (.ref (cl 0)) (.ref (cl 1)) = some false
  ec_1 : ExcC K (cl 1)
  ex_1 : PySem.W.exmOne K (.ref (cl 1)) (.ref (cl 2)) = some true
  kit_1_0 : PySem.W.kitOne K (.ref (cl 1)) (.ref (cl 0)) = some false
  kit_1_1 : PySem.W.kitOne K (.ref (cl 1)) (.ref (cl 1)) = some true
  g_0 : mg "NoSuchThing" = some (.ref (cl 0))
  x_0 : PySem.W.excIn K (cl 0) [.type "ValueError", .type "Exception", .type "BaseException", .type "object"] "ValueError.__new__" = true
  k_0 : PySem.W.keepIn K (.ref (cl 0)) = true
  b_0 : PySem.W.subIn K (.ref (cl 0)) (.type "BaseException") = some true
  t_0 : PySem.W.typeIn K (.ref (cl 0)) = some (.type "type")
  g_1 : mg "TooLarge" = some (.ref (cl 1))
  x_1 : PySem.W.excIn K (cl 1) [.type "ValueError", .type "Exception", .type "BaseException", .type "object"] "ValueError.__new__" = true
  k_1 : PySem.W.keepIn K (.ref (cl 1)) = true
  b_1 : PySem.W.subIn K (.ref (cl 1)) (.type "BaseException") = some true
  t_1 : PySem.W.typeIn K (.ref (cl 1)) = some (.type "type")
  g_2 : mg "GatesError" = some (.ref (cl 2))
theorem Txt.ec {K : PySem.W.Frag} {mg : Str → Option Value} {cl : Nat → Addr} (T : Txt K mg cl) : ∀ k, k < 2 → ExcC K (cl k)
  | 0, _ => T.ec_0
  | 1, _ => T.ec_1
  | k + 2, h => absurd h (by omega)
theorem Txt.ex {K : PySem.W.Frag} {mg : Str → Option Value} {cl : Nat → Addr} (T : Txt K mg cl) : ∀ k, k < 2 → PySem.W.exmOne K (.ref (cl k)) (.ref (cl 2)) = some true
  | 0, _ => T.ex_0
  | 1, _ => T.ex_1
  | k + 2, h => absurd h (by omega)
theorem Txt.kit {K : PySem.W.Frag} {mg : Str → Option Value} {cl : Nat → Addr} (T : Txt K mg cl) : ∀ k j, k < 2 → j < 2 → PySem.W.kitOne K (.ref (cl k)) (.ref (cl j)) = some (decide (k = j))
  | 0, 0, _, _ => T.kit_0_0
  | 0, 1, _, _ => T.kit_0_1
  | 1, 0, _, _ => T.kit_1_0
  | 1, 1, _, _ => T.kit_1_1
  | k + 2, _, h, _ => absurd h (by omega)
  | 0, j + 2, _, h => absurd h (by omega)
  | 1, j + 2, _, h => absurd h (by omega)
end G89

namespace G89
open PySem PySem.Spec L2 Mw
theorem ok_numbered_names {P : Program} {w : World} {K : PySem.W.Frag} {mg : Str → Option Value} {base : Heap} {cl : Nat → Addr} {fa : Addr} {fd : FuncData} (F : Fun K "numbered_names" "numbered_names" s_numbered_names fa fd) (T : Txt K mg cl)  :
    FnOk P w K mg base (L2.CX P w) 1 fa fd ["netlist"] (spP K cl (rs1 (rP (rsC (rT rS) (rsC (rT rS) (rs1 (rT (rP (rsC rS (rsC rS (rs1 (rT rS))))))))))) (rDk keS rS) (fun a => m_numbered_names a)) := by
  refine F.okX sc_numbered_names (fun vs H Q E h => ?_) (fun cdv A outer s H vs Q E hr h => ?_)
  · obtain ⟨G, a, _, hS, _⟩ := h
    exact ln1 _ _ _ _ hS
  · obtain ⟨G, p_netlist, hg, hS, hm⟩ := h
    obtain ⟨v_p_netlist, rfl, h_p_netlist⟩ := hS
    refine ⟨_, (pss_cons (ps_set (i := 1) sc_numbered_names.nd rfl (by first | exact Or.inl rfl | exact Or.inr rfl) pe_dnewK)
     (pss_cons (ps_for (passes_of rfl) rfl (pi_list (pe_op op_cat (pe_callTy (r := rLi K) call_list_of (by rfl) T.n_list b_list (pa_cons (pe_ix (r := rIxT K) ix_tup (pv 0) pe_int (fun _ _ => rfl)) pa_nil)) (pe_lc (own := [("gate", 3)]) rfl sc_numbered_names.nd (pi_tup (pe_ix (r := rIxT K) ix_tup (pv 0) pe_int (fun _ _ => rfl))) (blkOk_by (own := [("gate", 3)]) (N := N_numbered_names) (sc := defScope s_numbered_names) (by decide +kernel)) (fun _ _ _ _ _ => (pg_name (i := 3) sc_numbered_names.nd rfl (by first | exact Or.inl rfl | exact Or.inr rfl))) (fun _ _ _ _ _ => pts_nil) (fun _ _ _ _ _ => (pe_ix (r := rIxT K) ix_tup (pv 3) pe_int (fun _ _ => rfl)))))) (pg_name (i := 2) sc_numbered_names.nd rfl (by first | exact Or.inl rfl | exact Or.inr rfl)) (pss_cons (ps_dput (hu_of hr) (pv 1) (pv 2) (show PE _ _ (tJoin _) from pe_joined (PJ.cons pe_str (PJ.cons (pe_fmt (pe_callB call_lenD (by rfl) T.n_len b_len (pa_cons (pv 1) pa_nil))) PJ.nil))) rfl)
     pss_nil))
     (pss_cons (ps_ret (pv 1))
     pss_nil))), ?_⟩
    have hs : Hs ⟨H, G, E, cl⟩ G [] H := Hs.start hg
    have hm := Wp.ofSp (G0 := G) hm
    try dsimp only at hm
    unfold m_numbered_names at hm
    refine (show (_ : TS) _ ([some v_p_netlist, none, none, none] : L2.St) _ from ?_)
    refine w_asgD (K := K) (k := keS) (R := rS) (i := 1) d_new hs hm (fun p_names l_p_names vs_p_names G1 H1 e1 hs h1 hm => ?_)
    have h_p_netlist := (((rP (rsC (rT rS) (rsC (rT rS) (rs1 (rT (rP (rsC rS (rsC rS (rs1 (rT rS))))))))))).mono e1 h_p_netlist)
    have h_p_names := h1
    refine (show (_ : TS) _ ([some v_p_netlist, some (.ref l_p_names), none, none] : L2.St) _ from ?_)
    refine w_forM (K := K) (fun (p_names : (List (Str × Str))) (σ : L2.St) (G : Hp) (O : Own) => ∃ (l_p_names : Addr) (vs_p_names : List (Key × V)) (d_2 : Option V), σ = [some v_p_netlist, some (.ref l_p_names), d_2, none] ∧ O = [(l_p_names, .dK vs_p_names)] ∧ RKs keS rS K G vs_p_names p_names) (i_list (e_KL (EvN.evK (n_cat (EvN.evK (n_list sq_T (e_proj (k := 0) pj0 (e_var (K := K) (i := 0) (R := (rP (rsC (rT rS) (rsC (rT rS) (rs1 (rT (rP (rsC rS (rsC rS (rs1 (rT rS))))))))))) (x := p_netlist) rfl h_p_netlist)))) (EvN.evK (n_lc (S := rS) (i_tup (e_proj (k := 2) (pjS (pjS pj1)) (e_var (K := K) (i := 0) (R := (rP (rsC (rT rS) (rsC (rT rS) (rs1 (rT (rP (rsC rS (rsC rS (rs1 (rT rS))))))))))) (x := p_netlist) rfl h_p_netlist))) (fun _ h => nomatch h) (tg_name (i := 3) (R := (rP (rsC rS (rsC rS (rs1 (rT rS))))))) (by decide) (fun x2 vs2 G2 e2 hv2 => by
     obtain ⟨v2_p_gate, rfl, h2_p_gate⟩ := hv2
     exact ⟨t_yes, (e_proj (k := 0) pj0 (e_var (K := K) (i := 3) (R := (rP (rsC rS (rsC rS (rs1 (rT rS)))))) (x := x2) rfl h2_p_gate))⟩))))))) (fun _ _ _ _ _ _ h => nomatch h) (tg_name (i := 2) (R := rS)) hs hm ⟨l_p_names, vs_p_names, none, rfl, rfl, h_p_names⟩ (fun p_name p_names σ_ G1_3 G3 O_ H3 vv3 D3 Qb3 e3 w_ e13 hs hv3 E3 hm => ?_) (fun p_names σ_ G1_3 G3 O_ H3 e3 w_ e13 hs hm => ?_)
    · obtain ⟨l_p_names, vs_p_names, d_2, rfl, rfl, h_p_names⟩ := w_
      have h_p_netlist := (((rP (rsC (rT rS) (rsC (rT rS) (rs1 (rT (rP (rsC rS (rsC rS (rs1 (rT rS))))))))))).mono e3 h_p_netlist)
      have h_p_names := RKs.mono e13 h_p_names
      obtain ⟨v_p_name, rfl, h_p_name⟩ := hv3
      cases (show v_p_name = V.str p_name from h_p_name)
      have b3 := Same.refl G3
      refine (show (_ : TS) _ ([some v_p_netlist, some (.ref l_p_names), some (.str p_name), none] : L2.St) _ from ?_)
      unfold m_numbered_names_b6 at hm
      try dsimp only at hm
      refine w_dput (K := K) (k := keS) (R := rS) (i := 1) 0 (xs := p_names) rfl rfl h_p_names (e_joined (j_cons e_str (j_cons (e_fmtI (e_lenD (i := 1) (l := l_p_names) rfl (List.mem_of_getElem? (i := 0) rfl) h_p_names)) j_nil))) (e_var (K := K) (i := 2) (R := rS) (x := p_name) rfl rfl) hs hm (fun p_names vs_p_names G4 H4 e4 hs h4 hm => ?_)
      have h_p_netlist := (((rP (rsC (rT rS) (rsC (rT rS) (rs1 (rT (rP (rsC rS (rsC rS (rs1 (rT rS))))))))))).mono e4 h_p_netlist)
      have b3 := Same.trans b3 e4
      have h_p_names := h4
      exact E3.nx p_names _ _ _ _ _ b3 ⟨l_p_names, vs_p_names, some (.str p_name), rfl, rfl, h_p_names⟩ (Same.refl _) hs hm.out
    · obtain ⟨l_p_names, vs_p_names, d_2, rfl, rfl, h_p_names⟩ := w_
      have h_p_netlist := (((rP (rsC (rT rS) (rsC (rT rS) (rs1 (rT (rP (rsC rS (rsC rS (rs1 (rT rS))))))))))).mono e3 h_p_netlist)
      have h_p_names := RKs.mono e13 h_p_names
      refine (show (_ : TS) _ ([some v_p_netlist, some (.ref l_p_names), d_2, none] : L2.St) _ from ?_)
      try dsimp only at hm
      have ng5 := (hs.at 0 rfl).2.1
      have eg5 := same_new (o := HO.dK vs_p_names) ng5
      have hs := hs.give 0 rfl
      have h_p_names : (rDk keS rS).r K _ (.ref l_p_names) p_names := ⟨l_p_names, vs_p_names, rfl, upd_same, RKs.mono eg5 h_p_names⟩
      have h_p_netlist := (((rP (rsC (rT rS) (rsC (rT rS) (rs1 (rT (rP (rsC rS (rsC rS (rs1 (rT rS))))))))))).mono eg5 h_p_netlist)
      exact w_ret0 (K := K) (e_var (K := K) (i := 1) (R := (rDk keS rS)) (x := p_names) rfl h_p_names) hs hm fun r v G2 H2 hs2 hr2 hq => hq v G2 H2 hs2.fin hr2

theorem ok_renamed {P : Program} {w : World} {K : PySem.W.Frag} {mg : Str → Option Value} {base : Heap} {cl : Nat → Addr} {fa : Addr} {fd : FuncData} (F : Fun K "renamed" "renamed" s_renamed fa fd) (T : Txt K mg cl)  :
    FnOk P w K mg base (L2.CX P w) 1 fa fd ["names", "nets"] (spP K cl (rsC (rDk keS rS) (rs1 (rT rS))) (rT rS) (fun a => m_renamed (a.1) (a.2))) := by
  refine F.okX sc_renamed (fun vs H Q E h => ?_) (fun cdv A outer s H vs Q E hr h => ?_)
  · obtain ⟨G, a, _, hS, _⟩ := h
    exact (lnC ln1) _ _ _ _ hS
  · obtain ⟨G, ⟨p_names, p_nets⟩, hg, hS, hm⟩ := h
    obtain ⟨v_p_names, _, rfl, h_p_names, v_p_nets, rfl, h_p_nets⟩ := hS
    refine ⟨_, (pss_cons (ps_ret (pe_callTy (r := rTu K) call_tuple_of (by rfl) T.n_tuple b_tuple (pa_cons (pe_lc (own := [("net", 2)]) rfl sc_renamed.nd (pi_tup (pv 1)) (blkOk_by (own := [("net", 2)]) (N := N_renamed) (sc := defScope s_renamed) (by decide +kernel)) (fun _ _ _ _ _ => (pg_name (i := 2) sc_renamed.nd rfl (by first | exact Or.inl rfl | exact Or.inr rfl))) (fun _ _ _ _ _ => pts_nil) (fun _ _ _ _ _ => (pe_dget (hu_of hr) (pv 0) (pv 2) (fun _ _ => rfl)))) pa_nil)))
     pss_nil), ?_⟩
    have hs : Hs ⟨H, G, E, cl⟩ G [] H := Hs.start hg
    have hm := Wp.ofSp (G0 := G) hm
    try dsimp only at hm
    unfold m_renamed at hm
    refine (show (_ : TS) _ ([some v_p_names, some v_p_nets, none] : L2.St) _ from ?_)
    exact w_ret0 (K := K) (e_tupleL (e_KL (EvN.evK (n_lc (S := rS) (i_tup (e_var (K := K) (i := 1) (R := (rT rS)) (x := p_nets) rfl h_p_nets)) (fun _ h => nomatch h) (tg_name (i := 2) (R := rS)) (by decide) (fun x1 vs1 G1 e1 hv1 => by
     obtain ⟨v1_p_net, rfl, h1_p_net⟩ := hv1
     exact ⟨t_yes, (e_dgetG (k := keS) (e_var (K := K) (i := 0) (R := (rDk keS rS)) (x := p_names) rfl (((rDk keS rS)).mono e1 h_p_names)) (e_var (K := K) (i := 2) (R := rS) (x := x1) rfl h1_p_net))⟩))))) hs hm fun r v G2 H2 hs2 hr2 hq => hq v G2 H2 hs2.fin hr2

theorem ok_renamed_gates {P : Program} {w : World} {K : PySem.W.Frag} {mg : Str → Option Value} {base : Heap} {cl : Nat → Addr} {fa : Addr} {fd : FuncData} (F : Fun K "renamed_gates" "renamed_gates" s_renamed_gates fa fd) (T : Txt K mg cl) (C_renamed : Cal P w K mg base "renamed" 1 ["names", "nets"] (spP K cl (rsC (rDk keS rS) (rs1 (rT rS))) (rT rS) (fun a => m_renamed (a.1) (a.2)))) :
    FnOk P w K mg base (L2.CX P w) 2 fa fd ["netlist", "names"] (spP K cl (rsC (rP (rsC (rT rS) (rsC (rT rS) (rs1 (rT (rP (rsC rS (rsC rS (rs1 (rT rS)))))))))) (rs1 (rDk keS rS))) (rK (rP (rsC rS (rsC rS (rs1 (rT rS)))))) (fun a => m_renamed_gates (a.1) (a.2))) := by
  refine F.okX sc_renamed_gates (fun vs H Q E h => ?_) (fun cdv A outer s H vs Q E hr h => ?_)
  · obtain ⟨G, a, _, hS, _⟩ := h
    exact (lnC ln1) _ _ _ _ hS
  · obtain ⟨G, ⟨p_netlist, p_names⟩, hg, hS, hm⟩ := h
    obtain ⟨v_p_netlist, _, rfl, h_p_netlist, v_p_names, rfl, h_p_names⟩ := hS
    refine ⟨_, (pss_cons (ps_ret (pe_lc (own := [("name", 2), ("kind", 3), ("parts", 4)]) rfl sc_renamed_gates.nd (pi_tup (pe_ix (r := rIxT K) ix_tup (pv 0) pe_int (fun _ _ => rfl))) (blkOk_by (own := [("name", 2), ("kind", 3), ("parts", 4)]) (N := N_renamed_gates) (sc := defScope s_renamed_gates) (by decide +kernel)) (fun _ _ _ _ _ => (show PG _ _ (gTup K 3 _) from pg_tup rfl (pgs_cons (pg_name (i := 2) sc_renamed_gates.nd rfl (by first | exact Or.inl rfl | exact Or.inr rfl)) (pgs_cons (pg_name (i := 3) sc_renamed_gates.nd rfl (by first | exact Or.inl rfl | exact Or.inr rfl)) (pgs_cons (pg_name (i := 4) sc_renamed_gates.nd rfl (by first | exact Or.inl rfl | exact Or.inr rfl)) pgs_nil))))) (fun _ _ _ _ _ => pts_nil) (fun _ _ _ _ _ => (pe_tup (pa_cons (pe_dget (hu_of hr) (pv 1) (pv 2) (fun _ _ => rfl)) (pa_cons (pv 3) (pa_cons (pe_call (E := E0) C_renamed.ok (hr.mono (by decide)) rfl C_renamed.mgx C_renamed.kp C_renamed.bd .nil passL (pa_cons (pv 1) (pa_cons (pv 4) pa_nil))) pa_nil)))))))
     pss_nil), ?_⟩
    have hs : Hs ⟨H, G, E, cl⟩ G [] H := Hs.start hg
    have hm := Wp.ofSp (G0 := G) hm
    try dsimp only at hm
    unfold m_renamed_gates at hm
    refine (show (_ : TS) _ ([some v_p_netlist, some v_p_names, none, none, none] : L2.St) _ from ?_)
    exact w_ret0 (K := K) (EvN.evK (n_lc (S := (rP (rsC rS (rsC rS (rs1 (rT rS)))))) (i_tup (e_proj (k := 2) (pjS (pjS pj1)) (e_var (K := K) (i := 0) (R := (rP (rsC (rT rS) (rsC (rT rS) (rs1 (rT (rP (rsC rS (rsC rS (rs1 (rT rS))))))))))) (x := p_netlist) rfl h_p_netlist))) (fun _ h => nomatch h) (tg_tup3) (by decide) (fun x1 vs1 G1 e1 hv1 => by
     obtain ⟨v1_p_name, _, rfl, h1_p_name, v1_p_kind, _, rfl, h1_p_kind, v1_p_parts, rfl, h1_p_parts⟩ := hv1
     exact ⟨t_yes, (e_tup (lnC (lnC ln1)) (a_cons (e_dgetG (k := keS) (e_var (K := K) (i := 1) (R := (rDk keS rS)) (x := p_names) rfl (((rDk keS rS)).mono e1 h_p_names)) (e_var (K := K) (i := 2) (R := rS) (x := x1.1) rfl h1_p_name)) (a_cons (e_var (K := K) (i := 3) (R := rS) (x := x1.2.1) rfl h1_p_kind) (a_one (e_call (fm := ⟨H, G, E0, cl⟩) (a_cons (e_var (K := K) (i := 1) (R := (rDk keS rS)) (x := p_names) rfl (((rDk keS rS)).mono e1 h_p_names)) (a_one (e_var (K := K) (i := 4) (R := (rT rS)) (x := x1.2.2) rfl h1_p_parts))))))) (by decide))⟩))) hs hm fun r v G2 H2 hs2 hr2 hq => hq v G2 H2 hs2.fin hr2

theorem ok_second_names {P : Program} {w : World} {K : PySem.W.Frag} {mg : Str → Option Value} {base : Heap} {cl : Nat → Addr} {fa : Addr} {fd : FuncData} (F : Fun K "second_names" "second_names" s_second_names fa fd) (T : Txt K mg cl)  :
    FnOk P w K mg base (L2.CX P w) 1 fa fd ["second", "names", "sources"] (spP K cl (rsC (rP (rsC (rT rS) (rsC (rT rS) (rs1 (rT (rP (rsC rS (rsC rS (rs1 (rT rS)))))))))) (rsC (rDk keS rS) (rs1 (rT rS)))) (rDk keS rS) (fun a => m_second_names (a.1) (a.2.1) (a.2.2))) := by
  refine F.okX sc_second_names (fun vs H Q E h => ?_) (fun cdv A outer s H vs Q E hr h => ?_)
  · obtain ⟨G, a, _, hS, _⟩ := h
    exact (lnC (lnC ln1)) _ _ _ _ hS
  · obtain ⟨G, ⟨p_second, p_names, p_sources⟩, hg, hS, hm⟩ := h
    obtain ⟨v_p_second, _, rfl, h_p_second, v_p_names, _, rfl, h_p_names, v_p_sources, rfl, h_p_sources⟩ := hS
    refine ⟨_, (pss_cons (ps_setDc (i := 3) (own := [("name", 6), ("source", 7)]) rfl sc_second_names.nd rfl rfl (sw_trueD rfl rfl rfl (by decide +kernel)) (pi_zipB true true (by rfl) T.n_zip (pa_cons (pe_ix (r := rIxT K) ix_tup (pv 0) pe_int (fun _ _ => rfl)) (pa_cons (pv 2) pa_nil))) (blkOk_by (own := [("name", 6), ("source", 7)]) (N := N_second_names) (sc := defScope s_second_names) (by decide +kernel)) (fun _ _ _ _ _ => (show PG _ _ (gTup K 2 _) from pg_tup rfl (pgs_cons (pg_name (i := 6) sc_second_names.nd rfl (by first | exact Or.inl rfl | exact Or.inr rfl)) (pgs_cons (pg_name (i := 7) sc_second_names.nd rfl (by first | exact Or.inl rfl | exact Or.inr rfl)) pgs_nil)))) (fun _ _ _ _ _ => pts_nil) (fun _ _ _ _ _ => (pv 6)) (fun _ _ _ _ _ => (pe_dget (hu_of hr) (pv 1) (pv 7) (fun _ _ => rfl))))
     (pss_cons (ps_for (passes_of rfl) rfl (pi_enumT (by rfl) T.n_enumerate (pa_cons (pe_ix (r := rIxT K) ix_tup (pv 0) pe_int (fun _ _ => rfl)) pa_nil)) (show PG _ _ (gTup K 2 _) from pg_tup rfl (pgs_cons (pg_name (i := 4) sc_second_names.nd rfl (by first | exact Or.inl rfl | exact Or.inr rfl)) (pgs_cons (pg_name (i := 5) sc_second_names.nd rfl (by first | exact Or.inl rfl | exact Or.inr rfl)) pgs_nil))) (pss_cons (ps_dput (hu_of hr) (pv 3) (pe_ix (r := rIxT K) ix_tup (pv 5) pe_int (fun _ _ => rfl)) (show PE _ _ (tJoin _) from pe_joined (PJ.cons pe_str (PJ.cons (pe_fmt (pv 4)) PJ.nil))) rfl)
     pss_nil))
     (pss_cons (ps_ret (pv 3))
     pss_nil))), ?_⟩
    have hs : Hs ⟨H, G, E, cl⟩ G [] H := Hs.start hg
    have hm := Wp.ofSp (G0 := G) hm
    try dsimp only at hm
    unfold m_second_names at hm
    refine (show (_ : TS) _ ([some v_p_second, some v_p_names, some v_p_sources, none, none, none, none, none] : L2.St) _ from ?_)
    refine w_asgDN (K := K) (k := keS) (R := rS) (i := 3) (n_dc (k := keS) (S := rS) (i_zipB sk_T sk_T (e_proj (k := 0) pj0 (e_var (K := K) (i := 0) (R := (rP (rsC (rT rS) (rsC (rT rS) (rs1 (rT (rP (rsC rS (rsC rS (rs1 (rT rS))))))))))) (x := p_second) rfl h_p_second)) (e_var (K := K) (i := 2) (R := (rT rS)) (x := p_sources) rfl h_p_sources)) (fun _ h => nomatch h) (tg_tup2) (by decide) (fun x1 vs1 G1 e1 hv1 => by
     obtain ⟨v1_p_name, _, rfl, h1_p_name, v1_p_source, rfl, h1_p_source⟩ := hv1
     exact ⟨(e_var (K := K) (i := 6) (R := rS) (x := x1.1) rfl h1_p_name), (e_dgetG (k := keS) (e_var (K := K) (i := 1) (R := (rDk keS rS)) (x := p_names) rfl (((rDk keS rS)).mono e1 h_p_names)) (e_var (K := K) (i := 7) (R := rS) (x := x1.2) rfl h1_p_source))⟩)) hs hm (fun p_others l_p_others vs_p_others G2 H2 e2 hs h2 hm => ?_)
    have h_p_second := (((rP (rsC (rT rS) (rsC (rT rS) (rs1 (rT (rP (rsC rS (rsC rS (rs1 (rT rS))))))))))).mono e2 h_p_second)
    have h_p_names := (((rDk keS rS)).mono e2 h_p_names)
    have h_p_sources := (((rT rS)).mono e2 h_p_sources)
    have h_p_others := h2
    refine (show (_ : TS) _ ([some v_p_second, some v_p_names, some v_p_sources, some (.ref l_p_others), none, none, none, none] : L2.St) _ from ?_)
    refine w_forM (K := K) (fun (p_others : (List (Str × Str))) (σ : L2.St) (G : Hp) (O : Own) => ∃ (l_p_others : Addr) (vs_p_others : List (Key × V)) (d_4 : Option V) (d_5 : Option V), σ = [some v_p_second, some v_p_names, some v_p_sources, some (.ref l_p_others), d_4, d_5, none, none] ∧ O = [(l_p_others, .dK vs_p_others)] ∧ RKs keS rS K G vs_p_others p_others) (i_enumT (e_proj (k := 2) (pjS (pjS pj1)) (e_var (K := K) (i := 0) (R := (rP (rsC (rT rS) (rsC (rT rS) (rs1 (rT (rP (rsC rS (rsC rS (rs1 (rT rS))))))))))) (x := p_second) rfl h_p_second))) (fun _ _ _ _ _ _ h => nomatch h) (tg_tup2) hs hm ⟨l_p_others, vs_p_others, none, none, rfl, rfl, h_p_others⟩ (fun x3 p_others σ_ G1_3 G3 O_ H3 vv3 D3 Qb3 e3 w_ e13 hs hv3 E3 hm => ?_) (fun p_others σ_ G1_3 G3 O_ H3 e3 w_ e13 hs hm => ?_)
    · obtain ⟨l_p_others, vs_p_others, d_4, d_5, rfl, rfl, h_p_others⟩ := w_
      have h_p_second := (((rP (rsC (rT rS) (rsC (rT rS) (rs1 (rT (rP (rsC rS (rsC rS (rs1 (rT rS))))))))))).mono e3 h_p_second)
      have h_p_names := (((rDk keS rS)).mono e3 h_p_names)
      have h_p_sources := (((rT rS)).mono e3 h_p_sources)
      have h_p_others := RKs.mono e13 h_p_others
      obtain ⟨p_at, p_gate⟩ := x3
      obtain ⟨v_p_at, _, rfl, h_p_at, v_p_gate, rfl, h_p_gate⟩ := hv3
      cases (show v_p_at = V.int p_at from h_p_at)
      have b3 := Same.refl G3
      refine (show (_ : TS) _ ([some v_p_second, some v_p_names, some v_p_sources, some (.ref l_p_others), some (.int p_at), some v_p_gate, none, none] : L2.St) _ from ?_)
      unfold m_second_names_b6 at hm
      try dsimp only at hm
      refine w_dput (K := K) (k := keS) (R := rS) (i := 3) 0 (xs := p_others) rfl rfl h_p_others (e_joined (j_cons e_str (j_cons (e_fmtI (e_var (K := K) (i := 4) (R := zI) (x := p_at) rfl rfl)) j_nil))) (e_proj (k := 0) pj0 (e_var (K := K) (i := 5) (R := (rP (rsC rS (rsC rS (rs1 (rT rS)))))) (x := p_gate) rfl h_p_gate)) hs hm (fun p_others vs_p_others G4 H4 e4 hs h4 hm => ?_)
      have h_p_second := (((rP (rsC (rT rS) (rsC (rT rS) (rs1 (rT (rP (rsC rS (rsC rS (rs1 (rT rS))))))))))).mono e4 h_p_second)
      have h_p_names := (((rDk keS rS)).mono e4 h_p_names)
      have h_p_sources := (((rT rS)).mono e4 h_p_sources)
      have h_p_gate := (((rP (rsC rS (rsC rS (rs1 (rT rS)))))).mono e4 h_p_gate)
      have b3 := Same.trans b3 e4
      have h_p_others := h4
      exact E3.nx p_others _ _ _ _ _ b3 ⟨l_p_others, vs_p_others, some (.int p_at), some v_p_gate, rfl, rfl, h_p_others⟩ (Same.refl _) hs hm.out
    · obtain ⟨l_p_others, vs_p_others, d_4, d_5, rfl, rfl, h_p_others⟩ := w_
      have h_p_second := (((rP (rsC (rT rS) (rsC (rT rS) (rs1 (rT (rP (rsC rS (rsC rS (rs1 (rT rS))))))))))).mono e3 h_p_second)
      have h_p_names := (((rDk keS rS)).mono e3 h_p_names)
      have h_p_sources := (((rT rS)).mono e3 h_p_sources)
      have h_p_others := RKs.mono e13 h_p_others
      refine (show (_ : TS) _ ([some v_p_second, some v_p_names, some v_p_sources, some (.ref l_p_others), d_4, d_5, none, none] : L2.St) _ from ?_)
      try dsimp only at hm
      have ng5 := (hs.at 0 rfl).2.1
      have eg5 := same_new (o := HO.dK vs_p_others) ng5
      have hs := hs.give 0 rfl
      have h_p_others : (rDk keS rS).r K _ (.ref l_p_others) p_others := ⟨l_p_others, vs_p_others, rfl, upd_same, RKs.mono eg5 h_p_others⟩
      have h_p_second := (((rP (rsC (rT rS) (rsC (rT rS) (rs1 (rT (rP (rsC rS (rsC rS (rs1 (rT rS))))))))))).mono eg5 h_p_second)
      have h_p_names := (((rDk keS rS)).mono eg5 h_p_names)
      have h_p_sources := (((rT rS)).mono eg5 h_p_sources)
      exact w_ret0 (K := K) (e_var (K := K) (i := 3) (R := (rDk keS rS)) (x := p_others) rfl h_p_others) hs hm fun r v G2 H2 hs2 hr2 hq => hq v G2 H2 hs2.fin hr2

theorem ok_letter_count {P : Program} {w : World} {K : PySem.W.Frag} {mg : Str → Option Value} {base : Heap} {cl : Nat → Addr} {fa : Addr} {fd : FuncData} (F : Fun K "letter_count" "letter_count" s_letter_count fa fd) (T : Txt K mg cl)  :
    FnOk P w K mg base (L2.CX P w) 1 fa fd ["table"] (spP K cl (rs1 (rP (rsC zI (rsC zI (rs1 (rT (rT (rP (rsC zI (rs1 zI)))))))))) zI (fun a => m_letter_count a)) := by
  refine F.okX sc_letter_count (fun vs H Q E h => ?_) (fun cdv A outer s H vs Q E hr h => ?_)
  · obtain ⟨G, a, _, hS, _⟩ := h
    exact ln1 _ _ _ _ hS
  · obtain ⟨G, p_table, hg, hS, hm⟩ := h
    obtain ⟨v_p_table, rfl, h_p_table⟩ := hS
    refine ⟨_, (pss_cons (ps_ret (pe_op op_shl pe_int (pe_ix (r := rIxT K) ix_tup (pv 0) pe_int (fun _ _ => rfl))))
     pss_nil), ?_⟩
    have hs : Hs ⟨H, G, E, cl⟩ G [] H := Hs.start hg
    have hm := Wp.ofSp (G0 := G) hm
    try dsimp only at hm
    unfold m_letter_count at hm
    refine (show (_ : TS) _ ([some v_p_table] : L2.St) _ from ?_)
    exact w_ret0 (K := K) (e_shl e_int (e_proj (k := 0) pj0 (e_var (K := K) (i := 0) (R := (rP (rsC zI (rsC zI (rs1 (rT (rT (rP (rsC zI (rs1 zI)))))))))) (x := p_table) rfl h_p_table))) hs hm fun r v G2 H2 hs2 hr2 hq => hq v G2 H2 hs2.fin hr2

theorem ok_state_count {P : Program} {w : World} {K : PySem.W.Frag} {mg : Str → Option Value} {base : Heap} {cl : Nat → Addr} {fa : Addr} {fd : FuncData} (F : Fun K "state_count" "state_count" s_state_count fa fd) (T : Txt K mg cl)  :
    FnOk P w K mg base (L2.CX P w) 1 fa fd ["table"] (spP K cl (rs1 (rP (rsC zI (rsC zI (rs1 (rT (rT (rP (rsC zI (rs1 zI)))))))))) zI (fun a => m_state_count a)) := by
  refine F.okX sc_state_count (fun vs H Q E h => ?_) (fun cdv A outer s H vs Q E hr h => ?_)
  · obtain ⟨G, a, _, hS, _⟩ := h
    exact ln1 _ _ _ _ hS
  · obtain ⟨G, p_table, hg, hS, hm⟩ := h
    obtain ⟨v_p_table, rfl, h_p_table⟩ := hS
    refine ⟨_, (pss_cons (ps_ret (pe_callB (r := Mw.rLen K) call_len (by rfl) T.n_len b_len (pa_cons (pe_ix (r := rIxT K) ix_tup (pv 0) (pe_glob (v := .int (2)) rfl T.c_ROWS.choose_spec ⟨_, rfl⟩) (fun _ _ => rfl)) pa_nil)))
     pss_nil), ?_⟩
    have hs : Hs ⟨H, G, E, cl⟩ G [] H := Hs.start hg
    have hm := Wp.ofSp (G0 := G) hm
    try dsimp only at hm
    unfold m_state_count at hm
    refine (show (_ : TS) _ ([some v_p_table] : L2.St) _ from ?_)
    exact w_ret0 (K := K) (e_len sq_T (e_proj (k := 2) (pjS (pjS pj1)) (e_var (K := K) (i := 0) (R := (rP (rsC zI (rsC zI (rs1 (rT (rT (rP (rsC zI (rs1 zI)))))))))) (x := p_table) rfl h_p_table))) hs hm fun r v G2 H2 hs2 hr2 hq => hq v G2 H2 hs2.fin hr2

theorem ok_step {P : Program} {w : World} {K : PySem.W.Frag} {mg : Str → Option Value} {base : Heap} {cl : Nat → Addr} {fa : Addr} {fd : FuncData} (F : Fun K "step" "step" s_step fa fd) (T : Txt K mg cl)  :
    FnOk P w K mg base (L2.CX P w) 1 fa fd ["table", "state", "letter"] (spP K cl (rsC (rP (rsC zI (rsC zI (rs1 (rT (rT (rP (rsC zI (rs1 zI))))))))) (rsC zI (rs1 zI))) (rP (rsC zI (rs1 zI))) (fun a => m_step (a.1) (a.2.1) (a.2.2))) := by
  refine F.okX sc_step (fun vs H Q E h => ?_) (fun cdv A outer s H vs Q E hr h => ?_)
  · obtain ⟨G, a, _, hS, _⟩ := h
    exact (lnC (lnC ln1)) _ _ _ _ hS
  · obtain ⟨G, ⟨p_table, p_state, p_letter⟩, hg, hS, hm⟩ := h
    obtain ⟨v_p_table, _, rfl, h_p_table, v_p_state, _, rfl, h_p_state, v_p_letter, rfl, h_p_letter⟩ := hS
    cases (show v_p_state = V.int p_state from h_p_state)
    cases (show v_p_letter = V.int p_letter from h_p_letter)
    refine ⟨_, (pss_cons (ps_ret (pe_ix (r := rIxT K) ix_tup (pe_ix (r := rIxT K) ix_tup (pe_ix (r := rIxT K) ix_tup (pv 0) (pe_glob (v := .int (2)) rfl T.c_ROWS.choose_spec ⟨_, rfl⟩) (fun _ _ => rfl)) (pv 1) (fun _ _ => rfl)) (pv 2) (fun _ _ => rfl)))
     pss_nil), ?_⟩
    have hs : Hs ⟨H, G, E, cl⟩ G [] H := Hs.start hg
    have hm := Wp.ofSp (G0 := G) hm
    try dsimp only at hm
    unfold m_step at hm
    refine (show (_ : TS) _ ([some v_p_table, some (.int p_state), some (.int p_letter)] : L2.St) _ from ?_)
    exact w_ret0 (K := K) (e_ixT (e_ixT (e_proj (k := 2) (pjS (pjS pj1)) (e_var (K := K) (i := 0) (R := (rP (rsC zI (rsC zI (rs1 (rT (rT (rP (rsC zI (rs1 zI)))))))))) (x := p_table) rfl h_p_table)) (e_var (K := K) (i := 1) (R := zI) (x := p_state) rfl rfl)) (e_var (K := K) (i := 2) (R := zI) (x := p_letter) rfl rfl)) hs hm fun r v G2 H2 hs2 hr2 hq => hq v G2 H2 hs2.fin hr2

theorem ok_check_gates {P : Program} {w : World} {K : PySem.W.Frag} {mg : Str → Option Value} {base : Heap} {cl : Nat → Addr} {fa : Addr} {fd : FuncData} (F : Fun K "check_gates" "check_gates" s_check_gates fa fd) (T : Txt K mg cl)  :
    FnOk P w K mg base (L2.CX P w) 1 fa fd ["gates"] (spP K cl (rs1 (rK (rP (rsC rS (rsC rS (rs1 (rT rS))))))) rN (fun a => m_check_gates a)) := by
  refine F.okX sc_check_gates (fun vs H Q E h => ?_) (fun cdv A outer s H vs Q E hr h => ?_)
  · obtain ⟨G, a, _, hS, _⟩ := h
    exact ln1 _ _ _ _ hS
  · obtain ⟨G, p_gates, hg, hS, hm⟩ := h
    obtain ⟨v_p_gates, rfl, h_p_gates⟩ := hS
    have tk : Takes (cxOf (L2.CX P w) P w K mg base N_check_gates "check_gates" (defScope s_check_gates) fa cdv A outer s H E) (fun cls d _ H => E cls d H) := takes_of rfl rfl rfl rfl
    refine ⟨_, (pss_cons (ps_if (PW.pt (pw_or (pt_cmpR op_gt (pe_callB (r := Mw.rLen K) call_len (by rfl) T.n_len b_len (pa_cons (pv 0) pa_nil)) (pe_glob (v := .int (40)) rfl T.c_MOST_GATES.choose_spec ⟨_, rfl⟩) (nomark _)) (pw_or1 (pt_cmpR op_gt (pe_callB (r := Mw.rLen K) call_len (by rfl) T.n_len b_len (pa_cons (pe_lc (own := [("gate", 1)]) rfl sc_check_gates.nd (pi_list (pv 0)) (blkOk_by (own := [("gate", 1)]) (N := N_check_gates) (sc := defScope s_check_gates) (by decide +kernel)) (fun _ _ _ _ _ => (pg_name (i := 1) sc_check_gates.nd rfl (by first | exact Or.inl rfl | exact Or.inr rfl))) (fun _ _ _ _ _ => (pts_one (pt_cmpR op_eq (pe_ix (r := rIxT K) ix_tup (pv 1) pe_int (fun _ _ => rfl)) pe_str (nomark _)))) (fun _ _ _ _ _ => (pv 1))) pa_nil)) (pe_glob (v := .int (4)) rfl T.c_MOST_LATCHES.choose_spec ⟨_, rfl⟩) (nomark _))))) (pss_cons (ps_raise rfl tk (pmk_own PySem.F.excBase_ValueError T.x_1 T.g_1 T.k_1 (raises_own T.b_1 T.t_1) (by exact rfl)))
     pss_nil) pss_nil)
     pss_nil), ?_⟩
    have hs : Hs ⟨H, G, E, cl⟩ G [] H := Hs.start hg
    have hm := Wp.ofSp (G0 := G) hm
    try dsimp only at hm
    unfold m_check_gates at hm
    refine (show (_ : TS) _ ([some v_p_gates, none] : L2.St) _ from ?_)
    refine w_if (t_or (t_test (K := K) (e_cmp (p := fun i j => decide (j < i)) (e_len sq_K (e_var (K := K) (i := 0) (R := (rK (rP (rsC rS (rsC rS (rs1 (rT rS))))))) (x := p_gates) rfl h_p_gates)) e_int)) (t_test (K := K) (e_cmp (p := fun i j => decide (j < i)) (e_len sq_K (EvN.evK (n_lc (S := (rP (rsC rS (rsC rS (rs1 (rT rS)))))) (i_list (e_KL (e_var (K := K) (i := 0) (R := (rK (rP (rsC rS (rsC rS (rs1 (rT rS))))))) (x := p_gates) rfl h_p_gates))) (fun _ h => nomatch h) (tg_name (i := 1) (R := (rP (rsC rS (rsC rS (rs1 (rT rS))))))) (by decide) (fun x1 vs1 G1 e1 hv1 => by
     obtain ⟨v1_p_gate, rfl, h1_p_gate⟩ := hv1
     exact ⟨(t_test (K := K) (e_eq srS (e_proj (k := 1) (pjS pj0) (e_var (K := K) (i := 1) (R := (rP (rsC rS (rsC rS (rs1 (rT rS)))))) (x := x1) rfl h1_p_gate)) e_str)), (e_var (K := K) (i := 1) (R := (rP (rsC rS (rsC rS (rs1 (rT rS)))))) (x := x1) rfl h1_p_gate)⟩)))) e_int))) hs hm (fun G2 H2 e2 hs hm => ?_) (fun G2 H2 e2 hs hm => ?_)
    · have h_p_gates := (((rK (rP (rsC rS (rsC rS (rs1 (rT rS))))))).mono e2 h_p_gates)
      exact hm.out _ none hs.fr rfl
    · have h_p_gates := (((rK (rP (rsC rS (rsC rS (rs1 (rT rS))))))).mono e2 h_p_gates)
      refine nx_of ?_
      try dsimp only
      refine (show (_ : TS) _ ([some v_p_gates, none] : L2.St) _ from ?_)
      exact hm.out .non _ _ hs.fin rfl

theorem ok_join_netlists {P : Program} {w : World} {K : PySem.W.Frag} {mg : Str → Option Value} {base : Heap} {cl : Nat → Addr} {fa : Addr} {fd : FuncData} (F : Fun K "join_netlists" "join_netlists" s_join_netlists fa fd) (T : Txt K mg cl) (C_numbered_names : Cal P w K mg base "numbered_names" 1 ["netlist"] (spP K cl (rs1 (rP (rsC (rT rS) (rsC (rT rS) (rs1 (rT (rP (rsC rS (rsC rS (rs1 (rT rS))))))))))) (rDk keS rS) (fun a => m_numbered_names a))) (C_second_names : Cal P w K mg base "second_names" 1 ["second", "names", "sources"] (spP K cl (rsC (rP (rsC (rT rS) (rsC (rT rS) (rs1 (rT (rP (rsC rS (rsC rS (rs1 (rT rS)))))))))) (rsC (rDk keS rS) (rs1 (rT rS)))) (rDk keS rS) (fun a => m_second_names (a.1) (a.2.1) (a.2.2)))) (C_renamed_gates : Cal P w K mg base "renamed_gates" 2 ["netlist", "names"] (spP K cl (rsC (rP (rsC (rT rS) (rsC (rT rS) (rs1 (rT (rP (rsC rS (rsC rS (rs1 (rT rS)))))))))) (rs1 (rDk keS rS))) (rK (rP (rsC rS (rsC rS (rs1 (rT rS)))))) (fun a => m_renamed_gates (a.1) (a.2)))) (C_check_gates : Cal P w K mg base "check_gates" 1 ["gates"] (spP K cl (rs1 (rK (rP (rsC rS (rsC rS (rs1 (rT rS))))))) rN (fun a => m_check_gates a))) (C_renamed : Cal P w K mg base "renamed" 1 ["names", "nets"] (spP K cl (rsC (rDk keS rS) (rs1 (rT rS))) (rT rS) (fun a => m_renamed (a.1) (a.2)))) :
    FnOk P w K mg base (L2.CX P w) 3 fa fd ["first", "second"] (spP K cl (rsC (rP (rsC (rT rS) (rsC (rT rS) (rs1 (rT (rP (rsC rS (rsC rS (rs1 (rT rS)))))))))) (rs1 (rP (rsC (rT rS) (rsC (rT rS) (rs1 (rT (rP (rsC rS (rsC rS (rs1 (rT rS)))))))))))) (rP (rsC (rT rS) (rsC (rT rS) (rs1 (rT (rP (rsC rS (rsC rS (rs1 (rT rS)))))))))) (fun a => m_join_netlists (a.1) (a.2))) := by
  refine F.okX sc_join_netlists (fun vs H Q E h => ?_) (fun cdv A outer s H vs Q E hr h => ?_)
  · obtain ⟨G, a, _, hS, _⟩ := h
    exact (lnC ln1) _ _ _ _ hS
  · obtain ⟨G, ⟨p_first, p_second⟩, hg, hS, hm⟩ := h
    obtain ⟨v_p_first, _, rfl, h_p_first, v_p_second, rfl, h_p_second⟩ := hS
    have tk : Takes (cxOf (L2.CX P w) P w K mg base N_join_netlists "join_netlists" (defScope s_join_netlists) fa cdv A outer s H E) (fun cls d _ H => E cls d H) := takes_of rfl rfl rfl rfl
    refine ⟨_, (pss_cons (ps_if (pt_cmpR op_ne (pe_callB (r := Mw.rLen K) call_len (by rfl) T.n_len b_len (pa_cons (pe_ix (r := rIxT K) ix_tup (pv 0) pe_int (fun _ _ => rfl)) pa_nil)) (pe_callB (r := Mw.rLen K) call_len (by rfl) T.n_len b_len (pa_cons (pe_ix (r := rIxT K) ix_tup (pv 1) pe_int (fun _ _ => rfl)) pa_nil)) (nomark _)) (pss_cons (ps_raise rfl tk (pmk_own PySem.F.excBase_ValueError T.x_0 T.g_0 T.k_0 (raises_own T.b_0 T.t_0) (by exact rfl)))
     pss_nil) pss_nil)
     (pss_cons (ps_set (i := 2) sc_join_netlists.nd rfl (by first | exact Or.inl rfl | exact Or.inr rfl) (pe_call (E := E) C_numbered_names.ok (hr.mono (by decide)) rfl C_numbered_names.mgx C_numbered_names.kp C_numbered_names.bd .nil (passes_call tk (fun _ _ _ _ h => h)) (pa_cons (pv 0) pa_nil)))
     (pss_cons (ps_set (i := 3) sc_join_netlists.nd rfl (by first | exact Or.inl rfl | exact Or.inr rfl) (pe_call (E := E) C_second_names.ok (hr.mono (by decide)) rfl C_second_names.mgx C_second_names.kp C_second_names.bd .nil (passes_call tk (fun _ _ _ _ h => h)) (pa_cons (pv 1) (pa_cons (pv 2) (pa_cons (pe_ix (r := rIxT K) ix_tup (pv 0) pe_int (fun _ _ => rfl)) pa_nil)))))
     (pss_cons (ps_set (i := 4) sc_join_netlists.nd rfl (by first | exact Or.inl rfl | exact Or.inr rfl) (pe_op op_cat (pe_call (E := E) C_renamed_gates.ok (hr.mono (by decide)) rfl C_renamed_gates.mgx C_renamed_gates.kp C_renamed_gates.bd .nil (passes_call tk (fun _ _ _ _ h => h)) (pa_cons (pv 0) (pa_cons (pv 2) pa_nil))) (pe_call (E := E) C_renamed_gates.ok (hr.mono (by decide)) rfl C_renamed_gates.mgx C_renamed_gates.kp C_renamed_gates.bd .nil (passes_call tk (fun _ _ _ _ h => h)) (pa_cons (pv 1) (pa_cons (pv 3) pa_nil)))))
     (pss_cons (ps_expr (pe_call (E := E) C_check_gates.ok (hr.mono (by decide)) rfl C_check_gates.mgx C_check_gates.kp C_check_gates.bd .nil (passes_call tk (fun _ _ _ _ h => h)) (pa_cons (pv 4) pa_nil)))
     (pss_cons (ps_ret (pe_tup (pa_cons (pe_call (E := E) C_renamed.ok (hr.mono (by decide)) rfl C_renamed.mgx C_renamed.kp C_renamed.bd .nil (passes_call tk (fun _ _ _ _ h => h)) (pa_cons (pv 2) (pa_cons (pe_ix (r := rIxT K) ix_tup (pv 0) pe_int (fun _ _ => rfl)) pa_nil))) (pa_cons (pe_call (E := E) C_renamed.ok (hr.mono (by decide)) rfl C_renamed.mgx C_renamed.kp C_renamed.bd .nil (passes_call tk (fun _ _ _ _ h => h)) (pa_cons (pv 3) (pa_cons (pe_ix (r := rIxT K) ix_tup (pv 1) pe_int (fun _ _ => rfl)) pa_nil))) (pa_cons (pe_callTy (r := rTu K) call_tuple_of (by rfl) T.n_tuple b_tuple (pa_cons (pv 4) pa_nil)) pa_nil)))))
     pss_nil)))))), ?_⟩
    have hs : Hs ⟨H, G, E, cl⟩ G [] H := Hs.start hg
    have hm := Wp.ofSp (G0 := G) hm
    try dsimp only at hm
    unfold m_join_netlists at hm
    refine (show (_ : TS) _ ([some v_p_first, some v_p_second, none, none, none] : L2.St) _ from ?_)
    refine w_if (t_test (K := K) (e_ne srI (e_len sq_T (e_proj (k := 1) (pjS pj0) (e_var (K := K) (i := 0) (R := (rP (rsC (rT rS) (rsC (rT rS) (rs1 (rT (rP (rsC rS (rsC rS (rs1 (rT rS))))))))))) (x := p_first) rfl h_p_first))) (e_len sq_T (e_proj (k := 0) pj0 (e_var (K := K) (i := 1) (R := (rP (rsC (rT rS) (rsC (rT rS) (rs1 (rT (rP (rsC rS (rsC rS (rs1 (rT rS))))))))))) (x := p_second) rfl h_p_second))))) hs hm (fun G1 H1 e1 hs hm => ?_) (fun G1 H1 e1 hs hm => ?_)
    · have h_p_first := (((rP (rsC (rT rS) (rsC (rT rS) (rs1 (rT (rP (rsC rS (rsC rS (rs1 (rT rS))))))))))).mono e1 h_p_first)
      have h_p_second := (((rP (rsC (rT rS) (rsC (rT rS) (rs1 (rT (rP (rsC rS (rsC rS (rs1 (rT rS))))))))))).mono e1 h_p_second)
      exact hm.out _ none hs.fr rfl
    · have h_p_first := (((rP (rsC (rT rS) (rsC (rT rS) (rs1 (rT (rP (rsC rS (rsC rS (rs1 (rT rS))))))))))).mono e1 h_p_first)
      have h_p_second := (((rP (rsC (rT rS) (rsC (rT rS) (rs1 (rT (rP (rsC rS (rsC rS (rs1 (rT rS))))))))))).mono e1 h_p_second)
      refine nx_of ?_
      try dsimp only
      refine (show (_ : TS) _ ([some v_p_first, some v_p_second, none, none, none] : L2.St) _ from ?_)
      refine w_asg (K := K) (tg_name (i := 2) (R := (rDk keS rS))) (e_call (fm := ⟨H, G, E, cl⟩) (a_one (e_var (K := K) (i := 0) (R := (rP (rsC (rT rS) (rsC (rT rS) (rs1 (rT (rP (rsC rS (rsC rS (rs1 (rT rS))))))))))) (x := p_first) rfl h_p_first))) hs hm (fun p_names vv2 G2 H2 e2 hs hv2 hm => ?_)
      obtain ⟨v_p_names, rfl, h_p_names⟩ := hv2
      have h_p_first := (((rP (rsC (rT rS) (rsC (rT rS) (rs1 (rT (rP (rsC rS (rsC rS (rs1 (rT rS))))))))))).mono e2 h_p_first)
      have h_p_second := (((rP (rsC (rT rS) (rsC (rT rS) (rs1 (rT (rP (rsC rS (rsC rS (rs1 (rT rS))))))))))).mono e2 h_p_second)
      refine (show (_ : TS) _ ([some v_p_first, some v_p_second, some v_p_names, none, none] : L2.St) _ from ?_)
      refine w_asg (K := K) (tg_name (i := 3) (R := (rDk keS rS))) (e_call (fm := ⟨H, G, E, cl⟩) (a_cons (e_var (K := K) (i := 1) (R := (rP (rsC (rT rS) (rsC (rT rS) (rs1 (rT (rP (rsC rS (rsC rS (rs1 (rT rS))))))))))) (x := p_second) rfl h_p_second) (a_cons (e_var (K := K) (i := 2) (R := (rDk keS rS)) (x := p_names) rfl h_p_names) (a_one (e_proj (k := 1) (pjS pj0) (e_var (K := K) (i := 0) (R := (rP (rsC (rT rS) (rsC (rT rS) (rs1 (rT (rP (rsC rS (rsC rS (rs1 (rT rS))))))))))) (x := p_first) rfl h_p_first)))))) hs hm (fun p_others vv3 G3 H3 e3 hs hv3 hm => ?_)
      obtain ⟨v_p_others, rfl, h_p_others⟩ := hv3
      have h_p_first := (((rP (rsC (rT rS) (rsC (rT rS) (rs1 (rT (rP (rsC rS (rsC rS (rs1 (rT rS))))))))))).mono e3 h_p_first)
      have h_p_second := (((rP (rsC (rT rS) (rsC (rT rS) (rs1 (rT (rP (rsC rS (rsC rS (rs1 (rT rS))))))))))).mono e3 h_p_second)
      have h_p_names := (((rDk keS rS)).mono e3 h_p_names)
      refine (show (_ : TS) _ ([some v_p_first, some v_p_second, some v_p_names, some v_p_others, none] : L2.St) _ from ?_)
      refine w_asg (K := K) (tg_name (i := 4) (R := (rK (rP (rsC rS (rsC rS (rs1 (rT rS)))))))) (EvN.evK (n_cat (e_call (fm := ⟨H, G, E, cl⟩) (a_cons (e_var (K := K) (i := 0) (R := (rP (rsC (rT rS) (rsC (rT rS) (rs1 (rT (rP (rsC rS (rsC rS (rs1 (rT rS))))))))))) (x := p_first) rfl h_p_first) (a_one (e_var (K := K) (i := 2) (R := (rDk keS rS)) (x := p_names) rfl h_p_names)))) (e_call (fm := ⟨H, G, E, cl⟩) (a_cons (e_var (K := K) (i := 1) (R := (rP (rsC (rT rS) (rsC (rT rS) (rs1 (rT (rP (rsC rS (rsC rS (rs1 (rT rS))))))))))) (x := p_second) rfl h_p_second) (a_one (e_var (K := K) (i := 3) (R := (rDk keS rS)) (x := p_others) rfl h_p_others)))))) hs hm (fun p_gates vv4 G4 H4 e4 hs hv4 hm => ?_)
      obtain ⟨v_p_gates, rfl, h_p_gates⟩ := hv4
      have h_p_first := (((rP (rsC (rT rS) (rsC (rT rS) (rs1 (rT (rP (rsC rS (rsC rS (rs1 (rT rS))))))))))).mono e4 h_p_first)
      have h_p_second := (((rP (rsC (rT rS) (rsC (rT rS) (rs1 (rT (rP (rsC rS (rsC rS (rs1 (rT rS))))))))))).mono e4 h_p_second)
      have h_p_names := (((rDk keS rS)).mono e4 h_p_names)
      have h_p_others := (((rDk keS rS)).mono e4 h_p_others)
      refine (show (_ : TS) _ ([some v_p_first, some v_p_second, some v_p_names, some v_p_others, some v_p_gates] : L2.St) _ from ?_)
      refine w_drop (K := K) (e_call (fm := ⟨H, G, E, cl⟩) (a_one (e_var (K := K) (i := 4) (R := (rK (rP (rsC rS (rsC rS (rs1 (rT rS))))))) (x := p_gates) rfl h_p_gates))) hs hm (fun x5 G5 H5 e5 hs hm => ?_)
      have h_p_first := (((rP (rsC (rT rS) (rsC (rT rS) (rs1 (rT (rP (rsC rS (rsC rS (rs1 (rT rS))))))))))).mono e5 h_p_first)
      have h_p_second := (((rP (rsC (rT rS) (rsC (rT rS) (rs1 (rT (rP (rsC rS (rsC rS (rs1 (rT rS))))))))))).mono e5 h_p_second)
      have h_p_names := (((rDk keS rS)).mono e5 h_p_names)
      have h_p_others := (((rDk keS rS)).mono e5 h_p_others)
      have h_p_gates := (((rK (rP (rsC rS (rsC rS (rs1 (rT rS))))))).mono e5 h_p_gates)
      exact w_ret0 (K := K) (e_tup (lnC (lnC ln1)) (a_cons (e_call (fm := ⟨H, G, E, cl⟩) (a_cons (e_var (K := K) (i := 2) (R := (rDk keS rS)) (x := p_names) rfl h_p_names) (a_one (e_proj (k := 0) pj0 (e_var (K := K) (i := 0) (R := (rP (rsC (rT rS) (rsC (rT rS) (rs1 (rT (rP (rsC rS (rsC rS (rs1 (rT rS))))))))))) (x := p_first) rfl h_p_first))))) (a_cons (e_call (fm := ⟨H, G, E, cl⟩) (a_cons (e_var (K := K) (i := 3) (R := (rDk keS rS)) (x := p_others) rfl h_p_others) (a_one (e_proj (k := 1) (pjS pj0) (e_var (K := K) (i := 1) (R := (rP (rsC (rT rS) (rsC (rT rS) (rs1 (rT (rP (rsC rS (rsC rS (rs1 (rT rS))))))))))) (x := p_second) rfl h_p_second))))) (a_one (e_tupleL (e_KL (e_var (K := K) (i := 4) (R := (rK (rP (rsC rS (rsC rS (rs1 (rT rS))))))) (x := p_gates) rfl h_p_gates)))))) (by decide)) hs hm fun r v G2 H2 hs2 hr2 hq => hq v G2 H2 hs2.fin hr2

theorem ok_join_tables {P : Program} {w : World} {K : PySem.W.Frag} {mg : Str → Option Value} {base : Heap} {cl : Nat → Addr} {fa : Addr} {fd : FuncData} (F : Fun K "join_tables" "join_tables" s_join_tables fa fd) (T : Txt K mg cl) (C_state_count : Cal P w K mg base "state_count" 1 ["table"] (spP K cl (rs1 (rP (rsC zI (rsC zI (rs1 (rT (rT (rP (rsC zI (rs1 zI)))))))))) zI (fun a => m_state_count a))) (C_letter_count : Cal P w K mg base "letter_count" 1 ["table"] (spP K cl (rs1 (rP (rsC zI (rsC zI (rs1 (rT (rT (rP (rsC zI (rs1 zI)))))))))) zI (fun a => m_letter_count a))) (C_step : Cal P w K mg base "step" 1 ["table", "state", "letter"] (spP K cl (rsC (rP (rsC zI (rsC zI (rs1 (rT (rT (rP (rsC zI (rs1 zI))))))))) (rsC zI (rs1 zI))) (rP (rsC zI (rs1 zI))) (fun a => m_step (a.1) (a.2.1) (a.2.2)))) :
    FnOk P w K mg base (L2.CX P w) 2 fa fd ["first", "second"] (spP K cl (rsC (rP (rsC zI (rsC zI (rs1 (rT (rT (rP (rsC zI (rs1 zI))))))))) (rs1 (rP (rsC zI (rsC zI (rs1 (rT (rT (rP (rsC zI (rs1 zI))))))))))) (rP (rsC zI (rsC zI (rs1 (rT (rT (rP (rsC zI (rs1 zI))))))))) (fun a => m_join_tables (a.1) (a.2))) := by
  refine F.okX sc_join_tables (fun vs H Q E h => ?_) (fun cdv A outer s H vs Q E hr h => ?_)
  · obtain ⟨G, a, _, hS, _⟩ := h
    exact (lnC ln1) _ _ _ _ hS
  · obtain ⟨G, ⟨p_first, p_second⟩, hg, hS, hm⟩ := h
    obtain ⟨v_p_first, _, rfl, h_p_first, v_p_second, rfl, h_p_second⟩ := hS
    have tk : Takes (cxOf (L2.CX P w) P w K mg base N_join_tables "join_tables" (defScope s_join_tables) fa cdv A outer s H E) (fun cls d _ H => E cls d H) := takes_of rfl rfl rfl rfl
    refine ⟨_, (pss_cons (ps_if (pt_cmpR op_ne (pe_ix (r := rIxT K) ix_tup (pv 0) pe_int (fun _ _ => rfl)) (pe_ix (r := rIxT K) ix_tup (pv 1) pe_int (fun _ _ => rfl)) (nomark _)) (pss_cons (ps_raise rfl tk (pmk_own PySem.F.excBase_ValueError T.x_0 T.g_0 T.k_0 (raises_own T.b_0 T.t_0) (by exact rfl)))
     pss_nil) pss_nil)
     (pss_cons (ps_set (i := 2) sc_join_tables.nd rfl (by first | exact Or.inl rfl | exact Or.inr rfl) (pe_op op_mul (pe_call (E := E) C_state_count.ok (hr.mono (by decide)) rfl C_state_count.mgx C_state_count.kp C_state_count.bd .nil (passes_call tk (fun _ _ _ _ h => h)) (pa_cons (pv 0) pa_nil)) (pe_call (E := E) C_state_count.ok (hr.mono (by decide)) rfl C_state_count.mgx C_state_count.kp C_state_count.bd .nil (passes_call tk (fun _ _ _ _ h => h)) (pa_cons (pv 1) pa_nil))))
     (pss_cons (ps_if (PW.pt (pw_or (pt_cmpR op_gt (pv 2) (pe_glob (v := .int (32)) rfl T.c_MOST_STATES.choose_spec ⟨_, rfl⟩) (nomark _)) (pw_or1 (pt_cmpR op_gt (pe_op op_mul (pv 2) (pe_call (E := E) C_letter_count.ok (hr.mono (by decide)) rfl C_letter_count.mgx C_letter_count.kp C_letter_count.bd .nil (passes_call tk (fun _ _ _ _ h => h)) (pa_cons (pv 0) pa_nil))) (pe_glob (v := .int (1024)) rfl T.c_MOST_PAIRS.choose_spec ⟨_, rfl⟩) (nomark _))))) (pss_cons (ps_raise rfl tk (pmk_own PySem.F.excBase_ValueError T.x_1 T.g_1 T.k_1 (raises_own T.b_1 T.t_1) (by exact rfl)))
     pss_nil) pss_nil)
     (pss_cons (ps_set (i := 3) sc_join_tables.nd rfl (by first | exact Or.inl rfl | exact Or.inr rfl) (pe_lst pa_nil))
     (pss_cons (ps_for (passes_of rfl) rfl (pi_range1 rfl T.n_range (pa_cons (pe_call (E := E) C_state_count.ok (hr.mono (by decide)) rfl C_state_count.mgx C_state_count.kp C_state_count.bd .nil (passes_call tk (fun _ _ _ _ h => h)) (pa_cons (pv 1) pa_nil)) pa_nil)) (pg_name (i := 4) sc_join_tables.nd rfl (by first | exact Or.inl rfl | exact Or.inr rfl)) (pss_cons (ps_for (passes_of rfl) rfl (pi_tup (pe_ix (r := rIxT K) ix_tup (pv 0) (pe_glob (v := .int (2)) rfl T.c_ROWS.choose_spec ⟨_, rfl⟩) (fun _ _ => rfl))) (pg_name (i := 5) sc_join_tables.nd rfl (by first | exact Or.inl rfl | exact Or.inr rfl)) (pss_cons (ps_set (i := 6) sc_join_tables.nd rfl (by first | exact Or.inl rfl | exact Or.inr rfl) (pe_lst pa_nil))
     (pss_cons (ps_for (passes_of rfl) rfl (pi_tup (pv 5)) (show PG _ _ (gTup K 2 _) from pg_tup rfl (pgs_cons (pg_name (i := 7) sc_join_tables.nd rfl (by first | exact Or.inl rfl | exact Or.inr rfl)) (pgs_cons (pg_name (i := 8) sc_join_tables.nd rfl (by first | exact Or.inl rfl | exact Or.inr rfl)) pgs_nil))) (pss_cons (ps_asg (pe_call (E := E) C_step.ok (hr.mono (by decide)) rfl C_step.mgx C_step.kp C_step.bd .nil (passes_call tk (fun _ _ _ _ h => h)) (pa_cons (pv 1) (pa_cons (pv 4) (pa_cons (pv 8) pa_nil)))) (show PG _ _ (gTup K 2 _) from pg_tup rfl (pgs_cons (pg_name (i := 9) sc_join_tables.nd rfl (by first | exact Or.inl rfl | exact Or.inr rfl)) (pgs_cons (pg_name (i := 10) sc_join_tables.nd rfl (by first | exact Or.inl rfl | exact Or.inr rfl)) pgs_nil))))
     (pss_cons (ps_expr (pe_bm PySem.F.plainAttrs_list PySem.F.slot_list_append PySem.F.type_list_append mt_append (pv 6) (pa_cons (pe_tup (pa_cons (pe_op op_add (pv 7) (pe_op op_mul (pe_call (E := E) C_state_count.ok (hr.mono (by decide)) rfl C_state_count.mgx C_state_count.kp C_state_count.bd .nil (passes_call tk (fun _ _ _ _ h => h)) (pa_cons (pv 0) pa_nil)) (pv 9))) (pa_cons (pv 10) pa_nil))) pa_nil)))
     pss_nil)))
     (pss_cons (ps_expr (pe_bm PySem.F.plainAttrs_list PySem.F.slot_list_append PySem.F.type_list_append mt_append (pv 3) (pa_cons (pe_callTy (r := rTu K) call_tuple_of (by rfl) T.n_tuple b_tuple (pa_cons (pv 6) pa_nil)) pa_nil)))
     pss_nil))))
     pss_nil))
     (pss_cons (ps_ret (pe_tup (pa_cons (pe_ix (r := rIxT K) ix_tup (pv 0) pe_int (fun _ _ => rfl)) (pa_cons (pe_ix (r := rIxT K) ix_tup (pv 1) pe_int (fun _ _ => rfl)) (pa_cons (pe_callTy (r := rTu K) call_tuple_of (by rfl) T.n_tuple b_tuple (pa_cons (pv 3) pa_nil)) pa_nil)))))
     pss_nil)))))), ?_⟩
    have hs : Hs ⟨H, G, E, cl⟩ G [] H := Hs.start hg
    have hm := Wp.ofSp (G0 := G) hm
    try dsimp only at hm
    unfold m_join_tables at hm
    refine (show (_ : TS) _ ([some v_p_first, some v_p_second, none, none, none, none, none, none, none, none, none] : L2.St) _ from ?_)
    refine w_if (t_test (K := K) (e_ne srI (e_proj (k := 1) (pjS pj0) (e_var (K := K) (i := 0) (R := (rP (rsC zI (rsC zI (rs1 (rT (rT (rP (rsC zI (rs1 zI)))))))))) (x := p_first) rfl h_p_first)) (e_proj (k := 0) pj0 (e_var (K := K) (i := 1) (R := (rP (rsC zI (rsC zI (rs1 (rT (rT (rP (rsC zI (rs1 zI)))))))))) (x := p_second) rfl h_p_second)))) hs hm (fun G1 H1 e1 hs hm => ?_) (fun G1 H1 e1 hs hm => ?_)
    · have h_p_first := (((rP (rsC zI (rsC zI (rs1 (rT (rT (rP (rsC zI (rs1 zI)))))))))).mono e1 h_p_first)
      have h_p_second := (((rP (rsC zI (rsC zI (rs1 (rT (rT (rP (rsC zI (rs1 zI)))))))))).mono e1 h_p_second)
      exact hm.out _ none hs.fr rfl
    · have h_p_first := (((rP (rsC zI (rsC zI (rs1 (rT (rT (rP (rsC zI (rs1 zI)))))))))).mono e1 h_p_first)
      have h_p_second := (((rP (rsC zI (rsC zI (rs1 (rT (rT (rP (rsC zI (rs1 zI)))))))))).mono e1 h_p_second)
      refine nx_of ?_
      try dsimp only
      refine (show (_ : TS) _ ([some v_p_first, some v_p_second, none, none, none, none, none, none, none, none, none] : L2.St) _ from ?_)
      refine w_asg (K := K) (tg_name (i := 2) (R := zI)) (e_mul (e_call (fm := ⟨H, G, E, cl⟩) (a_one (e_var (K := K) (i := 0) (R := (rP (rsC zI (rsC zI (rs1 (rT (rT (rP (rsC zI (rs1 zI)))))))))) (x := p_first) rfl h_p_first))) (e_call (fm := ⟨H, G, E, cl⟩) (a_one (e_var (K := K) (i := 1) (R := (rP (rsC zI (rsC zI (rs1 (rT (rT (rP (rsC zI (rs1 zI)))))))))) (x := p_second) rfl h_p_second)))) hs hm (fun p_states vv2 G2 H2 e2 hs hv2 hm => ?_)
      obtain ⟨v_p_states, rfl, h_p_states⟩ := hv2
      cases (show v_p_states = V.int p_states from h_p_states)
      have h_p_first := (((rP (rsC zI (rsC zI (rs1 (rT (rT (rP (rsC zI (rs1 zI)))))))))).mono e2 h_p_first)
      have h_p_second := (((rP (rsC zI (rsC zI (rs1 (rT (rT (rP (rsC zI (rs1 zI)))))))))).mono e2 h_p_second)
      refine (show (_ : TS) _ ([some v_p_first, some v_p_second, some (.int p_states), none, none, none, none, none, none, none, none] : L2.St) _ from ?_)
      refine w_if (t_or (t_test (K := K) (e_cmp (p := fun i j => decide (j < i)) (e_var (K := K) (i := 2) (R := zI) (x := p_states) rfl rfl) e_int)) (t_test (K := K) (e_cmp (p := fun i j => decide (j < i)) (e_mul (e_var (K := K) (i := 2) (R := zI) (x := p_states) rfl rfl) (e_call (fm := ⟨H, G, E, cl⟩) (a_one (e_var (K := K) (i := 0) (R := (rP (rsC zI (rsC zI (rs1 (rT (rT (rP (rsC zI (rs1 zI)))))))))) (x := p_first) rfl h_p_first)))) e_int))) hs hm (fun G3 H3 e3 hs hm => ?_) (fun G3 H3 e3 hs hm => ?_)
      · have h_p_first := (((rP (rsC zI (rsC zI (rs1 (rT (rT (rP (rsC zI (rs1 zI)))))))))).mono e3 h_p_first)
        have h_p_second := (((rP (rsC zI (rsC zI (rs1 (rT (rT (rP (rsC zI (rs1 zI)))))))))).mono e3 h_p_second)
        exact hm.out _ none hs.fr rfl
      · have h_p_first := (((rP (rsC zI (rsC zI (rs1 (rT (rT (rP (rsC zI (rs1 zI)))))))))).mono e3 h_p_first)
        have h_p_second := (((rP (rsC zI (rsC zI (rs1 (rT (rT (rP (rsC zI (rs1 zI)))))))))).mono e3 h_p_second)
        refine nx_of ?_
        try dsimp only
        refine (show (_ : TS) _ ([some v_p_first, some v_p_second, some (.int p_states), none, none, none, none, none, none, none, none] : L2.St) _ from ?_)
        refine w_asgN (K := K) (R := (rT (rP (rsC zI (rs1 zI))))) (i := 3) (e_lst l_nil (by decide)) hs hm (fun p_rows l_p_rows vs_p_rows G4 H4 e4 hs h4 hm => ?_)
        have h_p_first := (((rP (rsC zI (rsC zI (rs1 (rT (rT (rP (rsC zI (rs1 zI)))))))))).mono e4 h_p_first)
        have h_p_second := (((rP (rsC zI (rsC zI (rs1 (rT (rT (rP (rsC zI (rs1 zI)))))))))).mono e4 h_p_second)
        have h_p_rows := h4
        refine (show (_ : TS) _ ([some v_p_first, some v_p_second, some (.int p_states), some (.ref l_p_rows), none, none, none, none, none, none, none] : L2.St) _ from ?_)
        refine w_forM (K := K) (fun (p_rows : (List (List (Int × Int)))) (σ : L2.St) (G : Hp) (O : Own) => ∃ (l_p_rows : Addr) (vs_p_rows : List V) (d_4 : Option V) (d_5 : Option V) (d_6 : Option V) (d_7 : Option V) (d_8 : Option V) (d_9 : Option V) (d_10 : Option V), σ = [some v_p_first, some v_p_second, some (.int p_states), some (.ref l_p_rows), d_4, d_5, d_6, d_7, d_8, d_9, d_10] ∧ O = [(l_p_rows, .lst vs_p_rows)] ∧ RLs (rT (rP (rsC zI (rs1 zI)))) K G vs_p_rows p_rows) (i_rng1 (e_call (fm := ⟨H, G, E, cl⟩) (a_one (e_var (K := K) (i := 1) (R := (rP (rsC zI (rsC zI (rs1 (rT (rT (rP (rsC zI (rs1 zI)))))))))) (x := p_second) rfl h_p_second)))) (fun _ _ _ _ _ _ h => nomatch h) (tg_name (i := 4) (R := zI)) hs hm ⟨l_p_rows, vs_p_rows, none, none, none, none, none, none, none, rfl, rfl, h_p_rows⟩ (fun p_b p_rows σ_ G1_5 G5 O_ H5 vv5 D5 Qb5 e5 w_ e15 hs hv5 E5 hm => ?_) (fun p_rows σ_ G1_5 G5 O_ H5 e5 w_ e15 hs hm => ?_)
        · obtain ⟨l_p_rows, vs_p_rows, d_4, d_5, d_6, d_7, d_8, d_9, d_10, rfl, rfl, h_p_rows⟩ := w_
          have h_p_first := (((rP (rsC zI (rsC zI (rs1 (rT (rT (rP (rsC zI (rs1 zI)))))))))).mono e5 h_p_first)
          have h_p_second := (((rP (rsC zI (rsC zI (rs1 (rT (rT (rP (rsC zI (rs1 zI)))))))))).mono e5 h_p_second)
          have h_p_rows := RLs.mono e15 h_p_rows
          obtain ⟨v_p_b, rfl, h_p_b⟩ := hv5
          cases (show v_p_b = V.int p_b from h_p_b)
          have b5 := Same.refl G5
          refine (show (_ : TS) _ ([some v_p_first, some v_p_second, some (.int p_states), some (.ref l_p_rows), some (.int p_b), d_5, d_6, d_7, d_8, d_9, d_10] : L2.St) _ from ?_)
          unfold m_join_tables_b16 at hm
          try dsimp only at hm
          refine w_forM (K := K) (fun (p_rows : (List (List (Int × Int)))) (σ : L2.St) (G : Hp) (O : Own) => ∃ (l_p_rows : Addr) (vs_p_rows : List V) (d_5 : Option V) (d_6 : Option V) (d_7 : Option V) (d_8 : Option V) (d_9 : Option V) (d_10 : Option V), σ = [some v_p_first, some v_p_second, some (.int p_states), some (.ref l_p_rows), some (.int p_b), d_5, d_6, d_7, d_8, d_9, d_10] ∧ O = [(l_p_rows, .lst vs_p_rows)] ∧ RLs (rT (rP (rsC zI (rs1 zI)))) K G vs_p_rows p_rows) (i_tup (e_proj (k := 2) (pjS (pjS pj1)) (e_var (K := K) (i := 0) (R := (rP (rsC zI (rsC zI (rs1 (rT (rT (rP (rsC zI (rs1 zI)))))))))) (x := p_first) rfl h_p_first))) (fun _ _ _ _ _ _ h => nomatch h) (tg_name (i := 5) (R := (rT (rP (rsC zI (rs1 zI)))))) hs hm ⟨l_p_rows, vs_p_rows, d_5, d_6, d_7, d_8, d_9, d_10, rfl, rfl, h_p_rows⟩ (fun p_row p_rows σ_ G1_6 G6 O_ H6 vv6 D6 Qb6 e6 w_ e16 hs hv6 E6 hm => ?_) (fun p_rows σ_ G1_6 G6 O_ H6 e6 w_ e16 hs hm => ?_)
          · obtain ⟨l_p_rows, vs_p_rows, d_5, d_6, d_7, d_8, d_9, d_10, rfl, rfl, h_p_rows⟩ := w_
            have h_p_first := (((rP (rsC zI (rsC zI (rs1 (rT (rT (rP (rsC zI (rs1 zI)))))))))).mono e6 h_p_first)
            have h_p_second := (((rP (rsC zI (rsC zI (rs1 (rT (rT (rP (rsC zI (rs1 zI)))))))))).mono e6 h_p_second)
            have h_p_rows := RLs.mono e16 h_p_rows
            obtain ⟨v_p_row, rfl, h_p_row⟩ := hv6
            have b6 := Same.refl G6
            refine (show (_ : TS) _ ([some v_p_first, some v_p_second, some (.int p_states), some (.ref l_p_rows), some (.int p_b), some v_p_row, d_6, d_7, d_8, d_9, d_10] : L2.St) _ from ?_)
            unfold m_join_tables_b14 at hm
            try dsimp only at hm
            refine w_asgN (K := K) (R := (rP (rsC zI (rs1 zI)))) (i := 6) (e_lst l_nil (by decide)) hs hm (fun p_joined l_p_joined vs_p_joined G7 H7 e7 hs h7 hm => ?_)
            have h_p_first := (((rP (rsC zI (rsC zI (rs1 (rT (rT (rP (rsC zI (rs1 zI)))))))))).mono e7 h_p_first)
            have h_p_second := (((rP (rsC zI (rsC zI (rs1 (rT (rT (rP (rsC zI (rs1 zI)))))))))).mono e7 h_p_second)
            have h_p_rows := RLs.mono e7 h_p_rows
            have h_p_row := (((rT (rP (rsC zI (rs1 zI))))).mono e7 h_p_row)
            have b6 := Same.trans b6 e7
            have h_p_joined := h7
            refine (show (_ : TS) _ ([some v_p_first, some v_p_second, some (.int p_states), some (.ref l_p_rows), some (.int p_b), some v_p_row, some (.ref l_p_joined), d_7, d_8, d_9, d_10] : L2.St) _ from ?_)
            refine w_forM (K := K) (fun (p_joined : (List (Int × Int))) (σ : L2.St) (G : Hp) (O : Own) => ∃ (l_p_joined : Addr) (vs_p_joined : List V) (d_7 : Option V) (d_8 : Option V) (d_9 : Option V) (d_10 : Option V), σ = [some v_p_first, some v_p_second, some (.int p_states), some (.ref l_p_rows), some (.int p_b), some v_p_row, some (.ref l_p_joined), d_7, d_8, d_9, d_10] ∧ O = [(l_p_joined, .lst vs_p_joined), (l_p_rows, .lst vs_p_rows)] ∧ RLs (rP (rsC zI (rs1 zI))) K G vs_p_joined p_joined) (i_tup (e_var (K := K) (i := 5) (R := (rT (rP (rsC zI (rs1 zI))))) (x := p_row) rfl h_p_row)) (fun _ _ _ _ _ _ h => nomatch h) (tg_tup2) hs hm ⟨l_p_joined, vs_p_joined, d_7, d_8, d_9, d_10, rfl, rfl, h_p_joined⟩ (fun x8 p_joined σ_ G1_8 G8 O_ H8 vv8 D8 Qb8 e8 w_ e18 hs hv8 E8 hm => ?_) (fun p_joined σ_ G1_8 G8 O_ H8 e8 w_ e18 hs hm => ?_)
            · obtain ⟨l_p_joined, vs_p_joined, d_7, d_8, d_9, d_10, rfl, rfl, h_p_joined⟩ := w_
              have h_p_first := (((rP (rsC zI (rsC zI (rs1 (rT (rT (rP (rsC zI (rs1 zI)))))))))).mono e8 h_p_first)
              have h_p_second := (((rP (rsC zI (rsC zI (rs1 (rT (rT (rP (rsC zI (rs1 zI)))))))))).mono e8 h_p_second)
              have h_p_rows := RLs.mono e8 h_p_rows
              have h_p_row := (((rT (rP (rsC zI (rs1 zI))))).mono e8 h_p_row)
              have h_p_joined := RLs.mono e18 h_p_joined
              obtain ⟨p_left, p_middle⟩ := x8
              obtain ⟨v_p_left, _, rfl, h_p_left, v_p_middle, rfl, h_p_middle⟩ := hv8
              cases (show v_p_left = V.int p_left from h_p_left)
              cases (show v_p_middle = V.int p_middle from h_p_middle)
              have b8 := Same.refl G8
              refine (show (_ : TS) _ ([some v_p_first, some v_p_second, some (.int p_states), some (.ref l_p_rows), some (.int p_b), some v_p_row, some (.ref l_p_joined), some (.int p_left), some (.int p_middle), d_9, d_10] : L2.St) _ from ?_)
              unfold m_join_tables_b13 at hm
              try dsimp only at hm
              refine w_asg (K := K) (tg_tup2) (e_call (fm := ⟨H, G, E, cl⟩) (a_cons (e_var (K := K) (i := 1) (R := (rP (rsC zI (rsC zI (rs1 (rT (rT (rP (rsC zI (rs1 zI)))))))))) (x := p_second) rfl h_p_second) (a_cons (e_var (K := K) (i := 4) (R := zI) (x := p_b) rfl rfl) (a_one (e_var (K := K) (i := 8) (R := zI) (x := p_middle) rfl rfl))))) hs hm (fun p9 vv9 G9 H9 e9 hs hv9 hm => ?_)
              obtain ⟨p_right, p_answer⟩ := p9
              obtain ⟨v_p_right, _, rfl, h_p_right, v_p_answer, rfl, h_p_answer⟩ := hv9
              cases (show v_p_right = V.int p_right from h_p_right)
              cases (show v_p_answer = V.int p_answer from h_p_answer)
              have h_p_first := (((rP (rsC zI (rsC zI (rs1 (rT (rT (rP (rsC zI (rs1 zI)))))))))).mono e9 h_p_first)
              have h_p_second := (((rP (rsC zI (rsC zI (rs1 (rT (rT (rP (rsC zI (rs1 zI)))))))))).mono e9 h_p_second)
              have h_p_rows := RLs.mono e9 h_p_rows
              have h_p_row := (((rT (rP (rsC zI (rs1 zI))))).mono e9 h_p_row)
              have h_p_joined := RLs.mono e9 h_p_joined
              have b8 := Same.trans b8 e9
              refine (show (_ : TS) _ ([some v_p_first, some v_p_second, some (.int p_states), some (.ref l_p_rows), some (.int p_b), some v_p_row, some (.ref l_p_joined), some (.int p_left), some (.int p_middle), some (.int p_right), some (.int p_answer)] : L2.St) _ from ?_)
              refine w_app (K := K) (i := 6) 0 (xs := p_joined) rfl rfl h_p_joined (e_tup (lnC ln1) (a_cons (e_add (e_var (K := K) (i := 7) (R := zI) (x := p_left) rfl rfl) (e_mul (e_call (fm := ⟨H, G, E, cl⟩) (a_one (e_var (K := K) (i := 0) (R := (rP (rsC zI (rsC zI (rs1 (rT (rT (rP (rsC zI (rs1 zI)))))))))) (x := p_first) rfl h_p_first))) (e_var (K := K) (i := 9) (R := zI) (x := p_right) rfl rfl))) (a_one (e_var (K := K) (i := 10) (R := zI) (x := p_answer) rfl rfl))) (by decide)) hs hm (fun y10 w10 G10 H10 e10 hs h10 hm => ?_)
              have h_p_first := (((rP (rsC zI (rsC zI (rs1 (rT (rT (rP (rsC zI (rs1 zI)))))))))).mono e10 h_p_first)
              have h_p_second := (((rP (rsC zI (rsC zI (rs1 (rT (rT (rP (rsC zI (rs1 zI)))))))))).mono e10 h_p_second)
              have h_p_rows := RLs.mono e10 h_p_rows
              have h_p_row := (((rT (rP (rsC zI (rs1 zI))))).mono e10 h_p_row)
              have b8 := Same.trans b8 e10
              have h_p_joined := h10
              generalize p_joined ++ [y10] = p_joined at hm h_p_joined
              generalize vs_p_joined ++ [w10] = vs_p_joined at hs h_p_joined
              exact E8.nx p_joined _ _ _ _ _ b8 ⟨l_p_joined, vs_p_joined, some (.int p_left), some (.int p_middle), some (.int p_right), some (.int p_answer), rfl, rfl, h_p_joined⟩ (Same.refl _) hs hm.out
            · obtain ⟨l_p_joined, vs_p_joined, d_7, d_8, d_9, d_10, rfl, rfl, h_p_joined⟩ := w_
              have h_p_first := (((rP (rsC zI (rsC zI (rs1 (rT (rT (rP (rsC zI (rs1 zI)))))))))).mono e8 h_p_first)
              have h_p_second := (((rP (rsC zI (rsC zI (rs1 (rT (rT (rP (rsC zI (rs1 zI)))))))))).mono e8 h_p_second)
              have h_p_rows := RLs.mono e8 h_p_rows
              have h_p_row := (((rT (rP (rsC zI (rs1 zI))))).mono e8 h_p_row)
              have h_p_joined := RLs.mono e18 h_p_joined
              have b6 := Same.trans b6 e8
              refine (show (_ : TS) _ ([some v_p_first, some v_p_second, some (.int p_states), some (.ref l_p_rows), some (.int p_b), some v_p_row, some (.ref l_p_joined), d_7, d_8, d_9, d_10] : L2.St) _ from ?_)
              try dsimp only at hm
              have ng11 := (hs.at 0 rfl).2.1
              have eg11 := same_new (o := HO.lst vs_p_joined) ng11
              have hs := hs.give 0 rfl
              have h_p_joined : (rK (rP (rsC zI (rs1 zI)))).r K _ (.ref l_p_joined) p_joined := ⟨l_p_joined, vs_p_joined, rfl, upd_same, RLs.mono eg11 h_p_joined⟩
              have h_p_first := (((rP (rsC zI (rsC zI (rs1 (rT (rT (rP (rsC zI (rs1 zI)))))))))).mono eg11 h_p_first)
              have h_p_second := (((rP (rsC zI (rsC zI (rs1 (rT (rT (rP (rsC zI (rs1 zI)))))))))).mono eg11 h_p_second)
              have h_p_rows := RLs.mono eg11 h_p_rows
              have h_p_row := (((rT (rP (rsC zI (rs1 zI))))).mono eg11 h_p_row)
              have b6 := Same.trans b6 eg11
              refine w_app (K := K) (i := 3) 0 (xs := p_rows) rfl rfl h_p_rows (e_tupleL (e_KL (e_var (K := K) (i := 6) (R := (rK (rP (rsC zI (rs1 zI))))) (x := p_joined) rfl h_p_joined))) hs hm (fun y12 w12 G12 H12 e12 hs h12 hm => ?_)
              have h_p_first := (((rP (rsC zI (rsC zI (rs1 (rT (rT (rP (rsC zI (rs1 zI)))))))))).mono e12 h_p_first)
              have h_p_second := (((rP (rsC zI (rsC zI (rs1 (rT (rT (rP (rsC zI (rs1 zI)))))))))).mono e12 h_p_second)
              have h_p_row := (((rT (rP (rsC zI (rs1 zI))))).mono e12 h_p_row)
              have h_p_joined := (((rK (rP (rsC zI (rs1 zI))))).mono e12 h_p_joined)
              have b6 := Same.trans b6 e12
              have h_p_rows := h12
              generalize p_rows ++ [y12] = p_rows at hm h_p_rows
              generalize vs_p_rows ++ [w12] = vs_p_rows at hs h_p_rows
              exact E6.nx p_rows _ _ _ _ _ b6 ⟨l_p_rows, vs_p_rows, some v_p_row, some (.ref l_p_joined), d_7, d_8, d_9, d_10, rfl, rfl, h_p_rows⟩ (Same.refl _) hs hm.out
          · obtain ⟨l_p_rows, vs_p_rows, d_5, d_6, d_7, d_8, d_9, d_10, rfl, rfl, h_p_rows⟩ := w_
            have h_p_first := (((rP (rsC zI (rsC zI (rs1 (rT (rT (rP (rsC zI (rs1 zI)))))))))).mono e6 h_p_first)
            have h_p_second := (((rP (rsC zI (rsC zI (rs1 (rT (rT (rP (rsC zI (rs1 zI)))))))))).mono e6 h_p_second)
            have h_p_rows := RLs.mono e16 h_p_rows
            have b5 := Same.trans b5 e6
            refine (show (_ : TS) _ ([some v_p_first, some v_p_second, some (.int p_states), some (.ref l_p_rows), some (.int p_b), d_5, d_6, d_7, d_8, d_9, d_10] : L2.St) _ from ?_)
            try dsimp only at hm
            exact E5.nx p_rows _ _ _ _ _ b5 ⟨l_p_rows, vs_p_rows, some (.int p_b), d_5, d_6, d_7, d_8, d_9, d_10, rfl, rfl, h_p_rows⟩ (Same.refl _) hs hm.out
        · obtain ⟨l_p_rows, vs_p_rows, d_4, d_5, d_6, d_7, d_8, d_9, d_10, rfl, rfl, h_p_rows⟩ := w_
          have h_p_first := (((rP (rsC zI (rsC zI (rs1 (rT (rT (rP (rsC zI (rs1 zI)))))))))).mono e5 h_p_first)
          have h_p_second := (((rP (rsC zI (rsC zI (rs1 (rT (rT (rP (rsC zI (rs1 zI)))))))))).mono e5 h_p_second)
          have h_p_rows := RLs.mono e15 h_p_rows
          refine (show (_ : TS) _ ([some v_p_first, some v_p_second, some (.int p_states), some (.ref l_p_rows), d_4, d_5, d_6, d_7, d_8, d_9, d_10] : L2.St) _ from ?_)
          try dsimp only at hm
          have ng15 := (hs.at 0 rfl).2.1
          have eg15 := same_new (o := HO.lst vs_p_rows) ng15
          have hs := hs.give 0 rfl
          have h_p_rows : (rK (rT (rP (rsC zI (rs1 zI))))).r K _ (.ref l_p_rows) p_rows := ⟨l_p_rows, vs_p_rows, rfl, upd_same, RLs.mono eg15 h_p_rows⟩
          have h_p_first := (((rP (rsC zI (rsC zI (rs1 (rT (rT (rP (rsC zI (rs1 zI)))))))))).mono eg15 h_p_first)
          have h_p_second := (((rP (rsC zI (rsC zI (rs1 (rT (rT (rP (rsC zI (rs1 zI)))))))))).mono eg15 h_p_second)
          exact w_ret0 (K := K) (e_tup (lnC (lnC ln1)) (a_cons (e_proj (k := 0) pj0 (e_var (K := K) (i := 0) (R := (rP (rsC zI (rsC zI (rs1 (rT (rT (rP (rsC zI (rs1 zI)))))))))) (x := p_first) rfl h_p_first)) (a_cons (e_proj (k := 1) (pjS pj0) (e_var (K := K) (i := 1) (R := (rP (rsC zI (rsC zI (rs1 (rT (rT (rP (rsC zI (rs1 zI)))))))))) (x := p_second) rfl h_p_second)) (a_one (e_tupleL (e_KL (e_var (K := K) (i := 3) (R := (rK (rT (rP (rsC zI (rs1 zI)))))) (x := p_rows) rfl h_p_rows)))))) (by decide)) hs hm fun r v G2 H2 hs2 hr2 hq => hq v G2 H2 hs2.fin hr2

theorem ok_law_far {P : Program} {w : World} {K : PySem.W.Frag} {mg : Str → Option Value} {base : Heap} {cl : Nat → Addr} {fa : Addr} {fd : FuncData} (F : Fun K "_law_far" "_law_far" s_law_far fa fd) (T : Txt K mg cl)  :
    FnOk P w K mg base (L2.CX P w) 1 fa fd ["script", "k"] (spP K cl (rsC (rL zI) (rs1 zI)) zI (fun a => m_law_far (a.1) (a.2))) := by
  refine F.okX sc_law_far (fun vs H Q E h => ?_) (fun cdv A outer s H vs Q E hr h => ?_)
  · obtain ⟨G, a, _, hS, _⟩ := h
    exact (lnC ln1) _ _ _ _ hS
  · obtain ⟨G, ⟨p_script, p_k⟩, hg, hS, hm⟩ := h
    obtain ⟨v_p_script, _, rfl, h_p_script, v_p_k, rfl, h_p_k⟩ := hS
    cases (show v_p_k = V.int p_k from h_p_k)
    refine ⟨_, (pss_cons (ps_if (pt_cmpR op_eq (pe_callB (r := Mw.rLen K) call_len (by rfl) T.n_len b_len (pa_cons (pv 0) pa_nil)) pe_int (nomark _)) (pss_cons (ps_ret (pe_op op_add (pe_op op_mul pe_int (pv 1)) pe_int))
     pss_nil) pss_nil)
     (pss_cons (ps_if (pt_cmpR op_lt (pv 1) (pe_callB (r := Mw.rLen K) call_len (by rfl) T.n_len b_len (pa_cons (pv 0) pa_nil)) (nomark _)) (pss_cons (ps_ret (pe_ix (r := rIxL K) ix_list (pv 0) (pv 1) (fun _ _ => rfl)))
     pss_nil) pss_nil)
     (pss_cons (ps_ret (pe_op op_add (pe_ix (r := rIxL K) ix_list (pv 0) (pe_op op_mod (pe_callTy call_int1 (by rfl) T.n_int b_int (pa_cons (pv 1) pa_nil)) (pe_callB (r := Mw.rLen K) call_len (by rfl) T.n_len b_len (pa_cons (pv 0) pa_nil))) (fun _ _ => rfl)) (pe_op op_mul pe_int (pv 1))))
     pss_nil))), ?_⟩
    have hs : Hs ⟨H, G, E, cl⟩ G [] H := Hs.start hg
    have hm := Wp.ofSp (G0 := G) hm
    try dsimp only at hm
    unfold m_law_far at hm
    refine (show (_ : TS) _ ([some v_p_script, some (.int p_k)] : L2.St) _ from ?_)
    refine w_if (t_test (K := K) (e_eq srI (e_len sq_L (e_var (K := K) (i := 0) (R := (rL zI)) (x := p_script) rfl h_p_script)) e_int)) hs hm (fun G1 H1 e1 hs hm => ?_) (fun G1 H1 e1 hs hm => ?_)
    · have h_p_script := (((rL zI)).mono e1 h_p_script)
      exact w_ret0 (K := K) (e_add (e_mul e_int (e_var (K := K) (i := 1) (R := zI) (x := p_k) rfl rfl)) e_int) hs hm fun r v G2 H2 hs2 hr2 hq => hq v G2 H2 hs2.fin hr2
    · have h_p_script := (((rL zI)).mono e1 h_p_script)
      refine nx_of ?_
      try dsimp only
      refine (show (_ : TS) _ ([some v_p_script, some (.int p_k)] : L2.St) _ from ?_)
      refine w_if (t_test (K := K) (e_cmp (p := fun i j => decide (i < j)) (e_var (K := K) (i := 1) (R := zI) (x := p_k) rfl rfl) (e_len sq_L (e_var (K := K) (i := 0) (R := (rL zI)) (x := p_script) rfl h_p_script)))) hs hm (fun G2 H2 e2 hs hm => ?_) (fun G2 H2 e2 hs hm => ?_)
      · have h_p_script := (((rL zI)).mono e2 h_p_script)
        exact w_ret0 (K := K) (e_ixL (e_var (K := K) (i := 0) (R := (rL zI)) (x := p_script) rfl h_p_script) (e_var (K := K) (i := 1) (R := zI) (x := p_k) rfl rfl)) hs hm fun r v G2 H2 hs2 hr2 hq => hq v G2 H2 hs2.fin hr2
      · have h_p_script := (((rL zI)).mono e2 h_p_script)
        refine nx_of ?_
        try dsimp only
        refine (show (_ : TS) _ ([some v_p_script, some (.int p_k)] : L2.St) _ from ?_)
        exact w_ret0 (K := K) (e_add (e_ixL (e_var (K := K) (i := 0) (R := (rL zI)) (x := p_script) rfl h_p_script) (e_mod (e_intI (e_var (K := K) (i := 1) (R := zI) (x := p_k) rfl rfl)) (e_len sq_L (e_var (K := K) (i := 0) (R := (rL zI)) (x := p_script) rfl h_p_script)))) (e_mul e_int (e_var (K := K) (i := 1) (R := zI) (x := p_k) rfl rfl))) hs hm fun r v G2 H2 hs2 hr2 hq => hq v G2 H2 hs2.fin hr2

theorem ok_law_parts {P : Program} {w : World} {K : PySem.W.Frag} {mg : Str → Option Value} {base : Heap} {cl : Nat → Addr} {fa : Addr} {fd : FuncData} (F : Fun K "_law_parts" "_law_parts" s_law_parts fa fd) (T : Txt K mg cl)  :
    FnOk P w K mg base (L2.CX P w) 1 fa fd ["cell", "sizes"] (spP K cl (rsC zI (rs1 (rK zI))) (rK zI) (fun a => m_law_parts (a.1) (a.2))) := by
  refine F.okX sc_law_parts (fun vs H Q E h => ?_) (fun cdv A outer s H vs Q E hr h => ?_)
  · obtain ⟨G, a, _, hS, _⟩ := h
    exact (lnC ln1) _ _ _ _ hS
  · obtain ⟨G, ⟨p_cell, p_sizes⟩, hg, hS, hm⟩ := h
    obtain ⟨v_p_cell, _, rfl, h_p_cell, v_p_sizes, rfl, h_p_sizes⟩ := hS
    cases (show v_p_cell = V.int p_cell from h_p_cell)
    refine ⟨_, (pss_cons (ps_set (i := 2) sc_law_parts.nd rfl (by first | exact Or.inl rfl | exact Or.inr rfl) (pe_lst pa_nil))
     (pss_cons (ps_set (i := 3) sc_law_parts.nd rfl (by first | exact Or.inl rfl | exact Or.inr rfl) (pe_op op_sub (pv 0) (pe_op op_pow pe_int pe_int)))
     (pss_cons (ps_for (passes_of rfl) rfl (pi_range1 rfl T.n_range (pa_cons (pe_callB (r := Mw.rLen K) call_len (by rfl) T.n_len b_len (pa_cons (pv 1) pa_nil)) pa_nil)) (pg_name (i := 4) sc_law_parts.nd rfl (by first | exact Or.inl rfl | exact Or.inr rfl)) (pss_cons (ps_if (pt_cmpR op_ge (pv 3) pe_int (nomark _)) (pss_cons (ps_expr (pe_bm PySem.F.plainAttrs_list PySem.F.slot_list_append PySem.F.type_list_append mt_append (pv 2) (pa_cons (pe_op op_mod (pe_callTy call_int1 (by rfl) T.n_int b_int (pa_cons (pv 3) pa_nil)) (pe_ix (r := rIxL K) ix_list (pv 1) (pv 4) (fun _ _ => rfl))) pa_nil)))
     (pss_cons (ps_set (i := 3) sc_law_parts.nd rfl (by first | exact Or.inl rfl | exact Or.inr rfl) (pe_op op_fdiv (pv 3) (pe_ix (r := rIxL K) ix_list (pv 1) (pv 4) (fun _ _ => rfl))))
     pss_nil)) (pss_cons (ps_set (i := 5) sc_law_parts.nd rfl (by first | exact Or.inl rfl | exact Or.inr rfl) (pe_op op_mod (pe_callTy call_int1 (by rfl) T.n_int b_int (pa_cons (pe_op op_add (pe_op op_add (pe_op op_mul (pv 0) pe_int) (pe_op op_mul (pv 4) pe_int)) pe_int) pa_nil)) pe_int))
     (pss_cons (ps_set (i := 5) sc_law_parts.nd rfl (by first | exact Or.inl rfl | exact Or.inr rfl) (pe_op op_mod (pe_callTy call_int1 (by rfl) T.n_int b_int (pa_cons (pe_op op_add (pe_op op_add (pe_op op_mul (pv 5) (pv 5)) (pe_op op_mul pe_int (pv 4))) pe_int) pa_nil)) pe_int))
     (pss_cons (ps_expr (pe_bm PySem.F.plainAttrs_list PySem.F.slot_list_append PySem.F.type_list_append mt_append (pv 2) (pa_cons (pe_op op_mod (pe_callTy call_int1 (by rfl) T.n_int b_int (pa_cons (pv 5) pa_nil)) (pe_ix (r := rIxL K) ix_list (pv 1) (pv 4) (fun _ _ => rfl))) pa_nil)))
     pss_nil))))
     pss_nil))
     (pss_cons (ps_ret (pv 2))
     pss_nil)))), ?_⟩
    have hs : Hs ⟨H, G, E, cl⟩ G [] H := Hs.start hg
    have hm := Wp.ofSp (G0 := G) hm
    try dsimp only at hm
    unfold m_law_parts at hm
    refine (show (_ : TS) _ ([some (.int p_cell), some v_p_sizes, none, none, none, none] : L2.St) _ from ?_)
    refine w_asgN (K := K) (R := zI) (i := 2) (e_lst l_nil (by decide)) hs hm (fun p_parts l_p_parts vs_p_parts G1 H1 e1 hs h1 hm => ?_)
    have h_p_sizes := (((rK zI)).mono e1 h_p_sizes)
    have h_p_parts := h1
    refine (show (_ : TS) _ ([some (.int p_cell), some v_p_sizes, some (.ref l_p_parts), none, none, none] : L2.St) _ from ?_)
    refine w_asg (K := K) (tg_name (i := 3) (R := zI)) (e_sub (e_var (K := K) (i := 0) (R := zI) (x := p_cell) rfl rfl) (e_pow e_int e_int)) hs hm (fun p_rest vv2 G2 H2 e2 hs hv2 hm => ?_)
    obtain ⟨v_p_rest, rfl, h_p_rest⟩ := hv2
    cases (show v_p_rest = V.int p_rest from h_p_rest)
    have h_p_sizes := (((rK zI)).mono e2 h_p_sizes)
    have h_p_parts := RLs.mono e2 h_p_parts
    refine (show (_ : TS) _ ([some (.int p_cell), some v_p_sizes, some (.ref l_p_parts), some (.int p_rest), none, none] : L2.St) _ from ?_)
    refine w_forM (K := K) (fun (s : (List Int) × Int) (σ : L2.St) (G : Hp) (O : Own) => match s with | (p_parts, p_rest) => ∃ (l_p_parts : Addr) (vs_p_parts : List V) (d_4 : Option V) (d_5 : Option V), σ = [some (.int p_cell), some v_p_sizes, some (.ref l_p_parts), some (.int p_rest), d_4, d_5] ∧ O = [(l_p_parts, .lst vs_p_parts)] ∧ RLs zI K G vs_p_parts p_parts) (i_rng1 (e_len sq_K (e_var (K := K) (i := 1) (R := (rK zI)) (x := p_sizes) rfl h_p_sizes))) (fun _ _ _ _ _ _ h => nomatch h) (tg_name (i := 4) (R := zI)) hs hm ⟨l_p_parts, vs_p_parts, none, none, rfl, rfl, h_p_parts⟩ (fun p_k s_ σ_ G1_3 G3 O_ H3 vv3 D3 Qb3 e3 w_ e13 hs hv3 E3 hm => ?_) (fun s_ σ_ G1_3 G3 O_ H3 e3 w_ e13 hs hm => ?_)
    · obtain ⟨p_parts, p_rest⟩ := s_
      obtain ⟨l_p_parts, vs_p_parts, d_4, d_5, rfl, rfl, h_p_parts⟩ := w_
      have h_p_sizes := (((rK zI)).mono e3 h_p_sizes)
      have h_p_parts := RLs.mono e13 h_p_parts
      obtain ⟨v_p_k, rfl, h_p_k⟩ := hv3
      cases (show v_p_k = V.int p_k from h_p_k)
      have b3 := Same.refl G3
      refine (show (_ : TS) _ ([some (.int p_cell), some v_p_sizes, some (.ref l_p_parts), some (.int p_rest), some (.int p_k), d_5] : L2.St) _ from ?_)
      unfold m_law_parts_b11 at hm
      try dsimp only at hm
      refine w_if (t_test (K := K) (e_cmp (p := fun i j => decide (j ≤ i)) (e_var (K := K) (i := 3) (R := zI) (x := p_rest) rfl rfl) e_int)) hs hm (fun G4 H4 e4 hs hm => ?_) (fun G4 H4 e4 hs hm => ?_)
      · have h_p_sizes := (((rK zI)).mono e4 h_p_sizes)
        have h_p_parts := RLs.mono e4 h_p_parts
        have b3 := Same.trans b3 e4
        refine w_app (K := K) (i := 2) 0 (xs := p_parts) rfl rfl h_p_parts (e_mod (e_intI (e_var (K := K) (i := 3) (R := zI) (x := p_rest) rfl rfl)) (e_ixL (e_KL (e_var (K := K) (i := 1) (R := (rK zI)) (x := p_sizes) rfl h_p_sizes)) (e_var (K := K) (i := 4) (R := zI) (x := p_k) rfl rfl))) hs hm (fun y5 w5 G5 H5 e5 hs h5 hm => ?_)
        have h_p_sizes := (((rK zI)).mono e5 h_p_sizes)
        have b3 := Same.trans b3 e5
        have h_p_parts := h5
        generalize p_parts ++ [y5] = p_parts at hm h_p_parts
        generalize vs_p_parts ++ [w5] = vs_p_parts at hs h_p_parts
        refine w_asg (K := K) (tg_name (i := 3) (R := zI)) (e_fdiv (e_var (K := K) (i := 3) (R := zI) (x := p_rest) rfl rfl) (e_ixL (e_KL (e_var (K := K) (i := 1) (R := (rK zI)) (x := p_sizes) rfl h_p_sizes)) (e_var (K := K) (i := 4) (R := zI) (x := p_k) rfl rfl))) hs hm (fun p_rest vv6 G6 H6 e6 hs hv6 hm => ?_)
        obtain ⟨v_p_rest, rfl, h_p_rest⟩ := hv6
        cases (show v_p_rest = V.int p_rest from h_p_rest)
        have h_p_sizes := (((rK zI)).mono e6 h_p_sizes)
        have h_p_parts := RLs.mono e6 h_p_parts
        have b3 := Same.trans b3 e6
        refine (show (_ : TS) _ ([some (.int p_cell), some v_p_sizes, some (.ref l_p_parts), some (.int p_rest), some (.int p_k), d_5] : L2.St) _ from ?_)
        refine nx_of ?_
        try dsimp only
        refine (show (_ : TS) _ ([some (.int p_cell), some v_p_sizes, some (.ref l_p_parts), some (.int p_rest), some (.int p_k), d_5] : L2.St) _ from ?_)
        exact E3.nx (p_parts, p_rest) _ _ _ _ _ b3 ⟨l_p_parts, vs_p_parts, some (.int p_k), d_5, rfl, rfl, h_p_parts⟩ (Same.refl _) hs hm.out
      · have h_p_sizes := (((rK zI)).mono e4 h_p_sizes)
        have h_p_parts := RLs.mono e4 h_p_parts
        have b3 := Same.trans b3 e4
        refine w_asg (K := K) (tg_name (i := 5) (R := zI)) (e_mod (e_intI (e_add (e_add (e_mul (e_var (K := K) (i := 0) (R := zI) (x := p_cell) rfl rfl) e_int) (e_mul (e_var (K := K) (i := 4) (R := zI) (x := p_k) rfl rfl) e_int)) e_int)) e_int) hs hm (fun p_mixed vv7 G7 H7 e7 hs hv7 hm => ?_)
        obtain ⟨v_p_mixed, rfl, h_p_mixed⟩ := hv7
        cases (show v_p_mixed = V.int p_mixed from h_p_mixed)
        have h_p_sizes := (((rK zI)).mono e7 h_p_sizes)
        have h_p_parts := RLs.mono e7 h_p_parts
        have b3 := Same.trans b3 e7
        refine (show (_ : TS) _ ([some (.int p_cell), some v_p_sizes, some (.ref l_p_parts), some (.int p_rest), some (.int p_k), some (.int p_mixed)] : L2.St) _ from ?_)
        refine w_asg (K := K) (tg_name (i := 5) (R := zI)) (e_mod (e_intI (e_add (e_add (e_mul (e_var (K := K) (i := 5) (R := zI) (x := p_mixed) rfl rfl) (e_var (K := K) (i := 5) (R := zI) (x := p_mixed) rfl rfl)) (e_mul e_int (e_var (K := K) (i := 4) (R := zI) (x := p_k) rfl rfl))) e_int)) e_int) hs hm (fun p_mixed vv8 G8 H8 e8 hs hv8 hm => ?_)
        obtain ⟨v_p_mixed, rfl, h_p_mixed⟩ := hv8
        cases (show v_p_mixed = V.int p_mixed from h_p_mixed)
        have h_p_sizes := (((rK zI)).mono e8 h_p_sizes)
        have h_p_parts := RLs.mono e8 h_p_parts
        have b3 := Same.trans b3 e8
        refine (show (_ : TS) _ ([some (.int p_cell), some v_p_sizes, some (.ref l_p_parts), some (.int p_rest), some (.int p_k), some (.int p_mixed)] : L2.St) _ from ?_)
        refine w_app (K := K) (i := 2) 0 (xs := p_parts) rfl rfl h_p_parts (e_mod (e_intI (e_var (K := K) (i := 5) (R := zI) (x := p_mixed) rfl rfl)) (e_ixL (e_KL (e_var (K := K) (i := 1) (R := (rK zI)) (x := p_sizes) rfl h_p_sizes)) (e_var (K := K) (i := 4) (R := zI) (x := p_k) rfl rfl))) hs hm (fun y9 w9 G9 H9 e9 hs h9 hm => ?_)
        have h_p_sizes := (((rK zI)).mono e9 h_p_sizes)
        have b3 := Same.trans b3 e9
        have h_p_parts := h9
        generalize p_parts ++ [y9] = p_parts at hm h_p_parts
        generalize vs_p_parts ++ [w9] = vs_p_parts at hs h_p_parts
        refine nx_of ?_
        try dsimp only
        refine (show (_ : TS) _ ([some (.int p_cell), some v_p_sizes, some (.ref l_p_parts), some (.int p_rest), some (.int p_k), some (.int p_mixed)] : L2.St) _ from ?_)
        exact E3.nx (p_parts, p_rest) _ _ _ _ _ b3 ⟨l_p_parts, vs_p_parts, some (.int p_k), some (.int p_mixed), rfl, rfl, h_p_parts⟩ (Same.refl _) hs hm.out
    · obtain ⟨p_parts, p_rest⟩ := s_
      obtain ⟨l_p_parts, vs_p_parts, d_4, d_5, rfl, rfl, h_p_parts⟩ := w_
      have h_p_sizes := (((rK zI)).mono e3 h_p_sizes)
      have h_p_parts := RLs.mono e13 h_p_parts
      refine (show (_ : TS) _ ([some (.int p_cell), some v_p_sizes, some (.ref l_p_parts), some (.int p_rest), d_4, d_5] : L2.St) _ from ?_)
      try dsimp only at hm
      have ng10 := (hs.at 0 rfl).2.1
      have eg10 := same_new (o := HO.lst vs_p_parts) ng10
      have hs := hs.give 0 rfl
      have h_p_parts : (rK zI).r K _ (.ref l_p_parts) p_parts := ⟨l_p_parts, vs_p_parts, rfl, upd_same, RLs.mono eg10 h_p_parts⟩
      have h_p_sizes := (((rK zI)).mono eg10 h_p_sizes)
      exact w_ret0 (K := K) (e_var (K := K) (i := 2) (R := (rK zI)) (x := p_parts) rfl h_p_parts) hs hm fun r v G2 H2 hs2 hr2 hq => hq v G2 H2 hs2.fin hr2

theorem ok_law_is_integer {P : Program} {w : World} {K : PySem.W.Frag} {mg : Str → Option Value} {base : Heap} {cl : Nat → Addr} {fa : Addr} {fd : FuncData} (F : Fun K "_law_is_integer" "_law_is_integer" s_law_is_integer fa fd) (T : Txt K mg cl)  :
    FnOk P w K mg base (L2.CX P w) 1 fa fd ["actual"] (spP K cl (rs1 (rO zI)) rB (fun a => m_law_is_integer a)) := by
  refine F.okX sc_law_is_integer (fun vs H Q E h => ?_) (fun cdv A outer s H vs Q E hr h => ?_)
  · obtain ⟨G, a, _, hS, _⟩ := h
    exact ln1 _ _ _ _ hS
  · obtain ⟨G, p_actual, hg, hS, hm⟩ := h
    obtain ⟨v_p_actual, rfl, h_p_actual⟩ := hS
    refine ⟨_, (pss_cons (ps_ret (pe_and (pe_callB (r := rIsi K) call_isi (by rfl) T.n_isinstance b_isinstance (pa_cons (pv 0) (pa_cons (pe_bltn (v := .ty "int") (by rfl) T.n_int b_int rfl) pa_nil))) (pe_one (pe_not (pe_callB (r := rIsi K) call_isi (by rfl) T.n_isinstance b_isinstance (pa_cons (pv 0) (pa_cons (pe_bltn (v := .ty "bool") (by rfl) T.n_bool b_bool rfl) pa_nil)))))))
     pss_nil), ?_⟩
    have hs : Hs ⟨H, G, E, cl⟩ G [] H := Hs.start hg
    have hm := Wp.ofSp (G0 := G) hm
    try dsimp only at hm
    unfold m_law_is_integer at hm
    refine (show (_ : TS) _ ([some v_p_actual] : L2.St) _ from ?_)
    exact w_ret0 (K := K) (e_and (e_isi (g := fun o => o.isSome) ty_OI isi_OI_int (e_var (K := K) (i := 0) (R := (rO zI)) (x := p_actual) rfl h_p_actual)) (e_not (e_isi (g := fun _ => false) ty_OI isi_OI_bool (e_var (K := K) (i := 0) (R := (rO zI)) (x := p_actual) rfl h_p_actual)))) hs hm fun r v G2 H2 hs2 hr2 hq => hq v G2 H2 hs2.fin hr2

theorem ok_law_bits {P : Program} {w : World} {K : PySem.W.Frag} {mg : Str → Option Value} {base : Heap} {cl : Nat → Addr} {fa : Addr} {fd : FuncData} (F : Fun K "_law_bits" "_law_bits" s_law_bits fa fd) (T : Txt K mg cl)  :
    FnOk P w K mg base (L2.CX P w) 1 fa fd ["number", "count"] (spPF K cl (rsC zI (rs1 zI)) (fun H => (rF H zI)) (fun a => m_law_bits (a.1) (a.2))) := by
  refine F.okX sc_law_bits (fun vs H Q E h => ?_) (fun cdv A outer s H vs Q E hr h => ?_)
  · obtain ⟨G, a, _, hS, _⟩ := h
    exact (lnC ln1) _ _ _ _ hS
  · obtain ⟨G, ⟨p_number, p_count⟩, hg, hS, hm⟩ := h
    obtain ⟨v_p_number, _, rfl, h_p_number, v_p_count, rfl, h_p_count⟩ := hS
    cases (show v_p_number = V.int p_number from h_p_number)
    cases (show v_p_count = V.int p_count from h_p_count)
    refine ⟨_, (pss_cons (ps_ret (pe_lc (own := [("k", 2)]) rfl sc_law_bits.nd (pi_range1 rfl T.n_range (pa_cons (pv 1) pa_nil)) (blkOk_by (own := [("k", 2)]) (N := N_law_bits) (sc := defScope s_law_bits) (by decide +kernel)) (fun _ _ _ _ _ => (pg_name (i := 2) sc_law_bits.nd rfl (by first | exact Or.inl rfl | exact Or.inr rfl))) (fun _ _ _ _ _ => pts_nil) (fun _ _ _ _ _ => (pe_op op_mod (pe_op op_fdiv (pe_callTy call_int1 (by rfl) T.n_int b_int (pa_cons (pv 0) pa_nil)) (pe_op op_shl pe_int (pv 2))) pe_int))))
     pss_nil), ?_⟩
    have hs : Hs ⟨H, G, E, cl⟩ G [] H := Hs.start hg
    have hm := Wp.ofSp (G0 := G) hm
    try dsimp only at hm
    unfold m_law_bits at hm
    refine (show (_ : TS) _ ([some (.int p_number), some (.int p_count), none] : L2.St) _ from ?_)
    exact w_ret0 (K := K) (EvN.evF (fm := ⟨H, G, E, cl⟩) (n_lc (S := zI) (i_rng1 (e_var (K := K) (i := 1) (R := zI) (x := p_count) rfl rfl)) (fun _ h => nomatch h) (tg_name (i := 2) (R := zI)) (by decide) (fun x1 vs1 G1 e1 hv1 => by
     obtain ⟨v1_p_k, rfl, h1_p_k⟩ := hv1
     exact ⟨t_yes, (e_mod (e_fdiv (e_intI (e_var (K := K) (i := 0) (R := zI) (x := p_number) rfl rfl)) (e_shl e_int (e_var (K := K) (i := 2) (R := zI) (x := x1) rfl h1_p_k))) e_int)⟩))) hs hm fun r v G2 H2 hs2 hr2 hq => hq v G2 H2 hs2.fin hr2

theorem ok_law_gate {P : Program} {w : World} {K : PySem.W.Frag} {mg : Str → Option Value} {base : Heap} {cl : Nat → Addr} {fa : Addr} {fd : FuncData} (F : Fun K "_law_gate" "_law_gate" s_law_gate fa fd) (T : Txt K mg cl)  :
    FnOk P w K mg base (L2.CX P w) 1 fa fd ["name", "parts", "nets"] (spP K cl (rsC rS (rsC (rK zI) (rs1 (rK rS)))) (rP (rsC rS (rsC rS (rs1 (rT rS))))) (fun a => m_law_gate (a.1) (a.2.1) (a.2.2))) := by
  refine F.okX sc_law_gate (fun vs H Q E h => ?_) (fun cdv A outer s H vs Q E hr h => ?_)
  · obtain ⟨G, a, _, hS, _⟩ := h
    exact (lnC (lnC ln1)) _ _ _ _ hS
  · obtain ⟨G, ⟨p_name, p_parts, p_nets⟩, hg, hS, hm⟩ := h
    obtain ⟨v_p_name, _, rfl, h_p_name, v_p_parts, _, rfl, h_p_parts, v_p_nets, rfl, h_p_nets⟩ := hS
    cases (show v_p_name = V.str p_name from h_p_name)
    refine ⟨_, (pss_cons (ps_set (i := 3) sc_law_gate.nd rfl (by first | exact Or.inl rfl | exact Or.inr rfl) (pe_lst (pa_cons pe_str (pa_cons pe_str (pa_cons pe_str (pa_cons pe_str (pa_cons pe_str (pa_cons pe_str (pa_cons pe_str (pa_cons pe_str (pa_cons pe_str (pa_cons pe_str (pa_cons pe_str (pa_cons pe_str (pa_cons pe_str (pa_cons pe_str pa_nil))))))))))))))))
     (pss_cons (ps_set (i := 4) sc_law_gate.nd rfl (by first | exact Or.inl rfl | exact Or.inr rfl) (pe_ix (r := rIxL K) ix_list (pe_op op_cat (pv 3) (pe_lst (pa_cons pe_str (pa_cons pe_str pa_nil)))) (pe_ix (r := rIxL K) ix_list (pv 1) pe_int (fun _ _ => rfl)) (fun _ _ => rfl)))
     (pss_cons (ps_if (pt_cmpR op_eq (pe_callB (r := Mw.rLen K) call_len (by rfl) T.n_len b_len (pa_cons (pv 2) pa_nil)) pe_int (nomark _)) (pss_cons (ps_set (i := 4) sc_law_gate.nd rfl (by first | exact Or.inl rfl | exact Or.inr rfl) (pe_ix (r := rIxL K) ix_list (pe_lst (pa_cons pe_str (pa_cons pe_str pa_nil))) (pe_ix (r := rIxL K) ix_list (pv 1) pe_int (fun _ _ => rfl)) (fun _ _ => rfl)))
     pss_nil) pss_nil)
     (pss_cons (ps_set (i := 5) sc_law_gate.nd rfl (by first | exact Or.inl rfl | exact Or.inr rfl) (pe_op op_add pe_int (pe_ix (r := rIxL K) ix_list (pv 1) pe_int (fun _ _ => rfl))))
     (pss_cons (ps_if (pt_cmpR (r := rIn K false) op_in_seq (pv 4) (pe_lst (pa_cons pe_str (pa_cons pe_str pa_nil))) (by rfl)) (pss_cons (ps_set (i := 5) sc_law_gate.nd rfl (by first | exact Or.inl rfl | exact Or.inr rfl) pe_int)
     pss_nil) pss_nil)
     (pss_cons (ps_if (pt_cmpR op_eq (pv 4) pe_str (nomark _)) (pss_cons (ps_set (i := 5) sc_law_gate.nd rfl (by first | exact Or.inl rfl | exact Or.inr rfl) pe_int)
     pss_nil) pss_nil)
     (pss_cons (ps_if (pt_cmpR op_eq (pv 4) pe_str (nomark _)) (pss_cons (ps_set (i := 5) sc_law_gate.nd rfl (by first | exact Or.inl rfl | exact Or.inr rfl) pe_int)
     pss_nil) pss_nil)
     (pss_cons (ps_if (pt_cmpR op_eq (pv 4) pe_str (nomark _)) (pss_cons (ps_set (i := 5) sc_law_gate.nd rfl (by first | exact Or.inl rfl | exact Or.inr rfl) pe_int)
     pss_nil) pss_nil)
     (pss_cons (ps_ret (pe_tup (pa_cons (pv 0) (pa_cons (pv 4) (pa_cons (pe_callTy (r := rTu K) call_tuple_of (by rfl) T.n_tuple b_tuple (pa_cons (pe_lc (own := [("k", 6)]) rfl sc_law_gate.nd (pi_range1 rfl T.n_range (pa_cons (pv 5) pa_nil)) (blkOk_by (own := [("k", 6)]) (N := N_law_gate) (sc := defScope s_law_gate) (by decide +kernel)) (fun _ _ _ _ _ => (pg_name (i := 6) sc_law_gate.nd rfl (by first | exact Or.inl rfl | exact Or.inr rfl))) (fun _ _ _ _ _ => pts_nil) (fun _ _ _ _ _ => (pe_ix (r := rIxL K) ix_list (pv 2) (pe_op op_mod (pe_callTy call_int1 (by rfl) T.n_int b_int (pa_cons (pe_ix (r := rIxL K) ix_list (pv 1) (pe_op op_add pe_int (pv 6)) (fun _ _ => rfl)) pa_nil)) (pe_callB (r := Mw.rLen K) call_len (by rfl) T.n_len b_len (pa_cons (pv 2) pa_nil))) (fun _ _ => rfl)))) pa_nil)) pa_nil)))))
     pss_nil))))))))), ?_⟩
    have hs : Hs ⟨H, G, E, cl⟩ G [] H := Hs.start hg
    have hm := Wp.ofSp (G0 := G) hm
    try dsimp only at hm
    unfold m_law_gate at hm
    refine (show (_ : TS) _ ([some (.str p_name), some v_p_parts, some v_p_nets, none, none, none, none] : L2.St) _ from ?_)
    refine w_asg (K := K) (tg_name (i := 3) (R := (rK rS))) (EvN.evK (e_lst (l_cons e_str (l_cons e_str (l_cons e_str (l_cons e_str (l_cons e_str (l_cons e_str (l_cons e_str (l_cons e_str (l_cons e_str (l_cons e_str (l_cons e_str (l_cons e_str (l_cons e_str (l_cons e_str l_nil)))))))))))))) (by decide))) hs hm (fun p_kinds vv1 G1 H1 e1 hs hv1 hm => ?_)
    obtain ⟨v_p_kinds, rfl, h_p_kinds⟩ := hv1
    have h_p_parts := (((rK zI)).mono e1 h_p_parts)
    have h_p_nets := (((rK rS)).mono e1 h_p_nets)
    refine (show (_ : TS) _ ([some (.str p_name), some v_p_parts, some v_p_nets, some v_p_kinds, none, none, none] : L2.St) _ from ?_)
    refine w_asg (K := K) (tg_name (i := 4) (R := rS)) (e_ixL (e_KL (EvN.evK (n_cat (e_var (K := K) (i := 3) (R := (rK rS)) (x := p_kinds) rfl h_p_kinds) (EvN.evK (e_lst (l_cons e_str (l_cons e_str l_nil)) (by decide)))))) (e_ixL (e_KL (e_var (K := K) (i := 1) (R := (rK zI)) (x := p_parts) rfl h_p_parts)) e_int)) hs hm (fun p_kind vv2 G2 H2 e2 hs hv2 hm => ?_)
    obtain ⟨v_p_kind, rfl, h_p_kind⟩ := hv2
    cases (show v_p_kind = V.str p_kind from h_p_kind)
    have h_p_parts := (((rK zI)).mono e2 h_p_parts)
    have h_p_nets := (((rK rS)).mono e2 h_p_nets)
    have h_p_kinds := (((rK rS)).mono e2 h_p_kinds)
    refine (show (_ : TS) _ ([some (.str p_name), some v_p_parts, some v_p_nets, some v_p_kinds, some (.str p_kind), none, none] : L2.St) _ from ?_)
    refine w_ifJ (k := fun s_ => (m_law_gate_j4 p_name p_parts p_nets s_)) (fun (p_kind : Str) (σ : L2.St) (G : Hp) (O : Own) => σ = [some (.str p_name), some v_p_parts, some v_p_nets, some v_p_kinds, some (.str p_kind), none, none] ∧ O = []) (t_test (K := K) (e_eq srI (e_len sq_K (e_var (K := K) (i := 2) (R := (rK rS)) (x := p_nets) rfl h_p_nets)) e_int)) hs hm (fun p_kind σ_ G1_3 G3 O_ H3 e3 w_ e13 hs hm => ?_) (fun G3 H3 J3 e3 hs hm => ?_) (fun G3 H3 J3 e3 hs hm => ?_)
    · obtain ⟨rfl, rfl⟩ := w_
      have h_p_parts := (((rK zI)).mono e3 h_p_parts)
      have h_p_nets := (((rK rS)).mono e3 h_p_nets)
      have h_p_kinds := (((rK rS)).mono e3 h_p_kinds)
      refine (show (_ : TS) _ ([some (.str p_name), some v_p_parts, some v_p_nets, some v_p_kinds, some (.str p_kind), none, none] : L2.St) _ from ?_)
      unfold m_law_gate_j4 at hm
      try dsimp only at hm
      refine w_asg (K := K) (tg_name (i := 5) (R := zI)) (e_add e_int (e_ixL (e_KL (e_var (K := K) (i := 1) (R := (rK zI)) (x := p_parts) rfl h_p_parts)) e_int)) hs hm (fun p_count vv5 G5 H5 e5 hs hv5 hm => ?_)
      obtain ⟨v_p_count, rfl, h_p_count⟩ := hv5
      cases (show v_p_count = V.int p_count from h_p_count)
      have h_p_parts := (((rK zI)).mono e5 h_p_parts)
      have h_p_nets := (((rK rS)).mono e5 h_p_nets)
      have h_p_kinds := (((rK rS)).mono e5 h_p_kinds)
      refine (show (_ : TS) _ ([some (.str p_name), some v_p_parts, some v_p_nets, some v_p_kinds, some (.str p_kind), some (.int p_count), none] : L2.St) _ from ?_)
      refine w_ifJ (k := fun s_ => (m_law_gate_j7 p_name p_parts p_nets p_kind s_)) (fun (p_count : Int) (σ : L2.St) (G : Hp) (O : Own) => σ = [some (.str p_name), some v_p_parts, some v_p_nets, some v_p_kinds, some (.str p_kind), some (.int p_count), none] ∧ O = []) (t_test (K := K) (e_in srS sq_K (e_var (K := K) (i := 4) (R := rS) (x := p_kind) rfl rfl) (EvN.evK (e_lst (l_cons e_str (l_cons e_str l_nil)) (by decide))))) hs hm (fun p_count σ_ G1_6 G6 O_ H6 e6 w_ e16 hs hm => ?_) (fun G6 H6 J6 e6 hs hm => ?_) (fun G6 H6 J6 e6 hs hm => ?_)
      · obtain ⟨rfl, rfl⟩ := w_
        have h_p_parts := (((rK zI)).mono e6 h_p_parts)
        have h_p_nets := (((rK rS)).mono e6 h_p_nets)
        have h_p_kinds := (((rK rS)).mono e6 h_p_kinds)
        refine (show (_ : TS) _ ([some (.str p_name), some v_p_parts, some v_p_nets, some v_p_kinds, some (.str p_kind), some (.int p_count), none] : L2.St) _ from ?_)
        unfold m_law_gate_j7 at hm
        try dsimp only at hm
        refine w_ifJ (k := fun s_ => (m_law_gate_j9 p_name p_parts p_nets p_kind s_)) (fun (p_count : Int) (σ : L2.St) (G : Hp) (O : Own) => σ = [some (.str p_name), some v_p_parts, some v_p_nets, some v_p_kinds, some (.str p_kind), some (.int p_count), none] ∧ O = []) (t_test (K := K) (e_eq srS (e_var (K := K) (i := 4) (R := rS) (x := p_kind) rfl rfl) e_str)) hs hm (fun p_count σ_ G1_8 G8 O_ H8 e8 w_ e18 hs hm => ?_) (fun G8 H8 J8 e8 hs hm => ?_) (fun G8 H8 J8 e8 hs hm => ?_)
        · obtain ⟨rfl, rfl⟩ := w_
          have h_p_parts := (((rK zI)).mono e8 h_p_parts)
          have h_p_nets := (((rK rS)).mono e8 h_p_nets)
          have h_p_kinds := (((rK rS)).mono e8 h_p_kinds)
          refine (show (_ : TS) _ ([some (.str p_name), some v_p_parts, some v_p_nets, some v_p_kinds, some (.str p_kind), some (.int p_count), none] : L2.St) _ from ?_)
          unfold m_law_gate_j9 at hm
          try dsimp only at hm
          refine w_ifJ (k := fun s_ => (m_law_gate_j11 p_name p_parts p_nets p_kind s_)) (fun (p_count : Int) (σ : L2.St) (G : Hp) (O : Own) => σ = [some (.str p_name), some v_p_parts, some v_p_nets, some v_p_kinds, some (.str p_kind), some (.int p_count), none] ∧ O = []) (t_test (K := K) (e_eq srS (e_var (K := K) (i := 4) (R := rS) (x := p_kind) rfl rfl) e_str)) hs hm (fun p_count σ_ G1_10 G10 O_ H10 e10 w_ e110 hs hm => ?_) (fun G10 H10 J10 e10 hs hm => ?_) (fun G10 H10 J10 e10 hs hm => ?_)
          · obtain ⟨rfl, rfl⟩ := w_
            have h_p_parts := (((rK zI)).mono e10 h_p_parts)
            have h_p_nets := (((rK rS)).mono e10 h_p_nets)
            have h_p_kinds := (((rK rS)).mono e10 h_p_kinds)
            refine (show (_ : TS) _ ([some (.str p_name), some v_p_parts, some v_p_nets, some v_p_kinds, some (.str p_kind), some (.int p_count), none] : L2.St) _ from ?_)
            unfold m_law_gate_j11 at hm
            try dsimp only at hm
            refine w_ifJ (k := fun s_ => (m_law_gate_j13 p_name p_parts p_nets p_kind s_)) (fun (p_count : Int) (σ : L2.St) (G : Hp) (O : Own) => σ = [some (.str p_name), some v_p_parts, some v_p_nets, some v_p_kinds, some (.str p_kind), some (.int p_count), none] ∧ O = []) (t_test (K := K) (e_eq srS (e_var (K := K) (i := 4) (R := rS) (x := p_kind) rfl rfl) e_str)) hs hm (fun p_count σ_ G1_12 G12 O_ H12 e12 w_ e112 hs hm => ?_) (fun G12 H12 J12 e12 hs hm => ?_) (fun G12 H12 J12 e12 hs hm => ?_)
            · obtain ⟨rfl, rfl⟩ := w_
              have h_p_parts := (((rK zI)).mono e12 h_p_parts)
              have h_p_nets := (((rK rS)).mono e12 h_p_nets)
              have h_p_kinds := (((rK rS)).mono e12 h_p_kinds)
              refine (show (_ : TS) _ ([some (.str p_name), some v_p_parts, some v_p_nets, some v_p_kinds, some (.str p_kind), some (.int p_count), none] : L2.St) _ from ?_)
              unfold m_law_gate_j13 at hm
              try dsimp only at hm
              exact w_ret0 (K := K) (e_tup (lnC (lnC ln1)) (a_cons (e_var (K := K) (i := 0) (R := rS) (x := p_name) rfl rfl) (a_cons (e_var (K := K) (i := 4) (R := rS) (x := p_kind) rfl rfl) (a_one (e_tupleL (e_KL (EvN.evK (n_lc (S := rS) (i_rng1 (e_var (K := K) (i := 5) (R := zI) (x := p_count) rfl rfl)) (fun _ h => nomatch h) (tg_name (i := 6) (R := zI)) (by decide) (fun x14 vs14 G14 e14 hv14 => by
               obtain ⟨v14_p_k, rfl, h14_p_k⟩ := hv14
               exact ⟨t_yes, (e_ixL (e_KL (e_var (K := K) (i := 2) (R := (rK rS)) (x := p_nets) rfl (((rK rS)).mono e14 h_p_nets))) (e_mod (e_intI (e_ixL (e_KL (e_var (K := K) (i := 1) (R := (rK zI)) (x := p_parts) rfl (((rK zI)).mono e14 h_p_parts))) (e_add e_int (e_var (K := K) (i := 6) (R := zI) (x := x14) rfl h14_p_k)))) (e_len sq_K (e_var (K := K) (i := 2) (R := (rK rS)) (x := p_nets) rfl (((rK rS)).mono e14 h_p_nets)))))⟩)))))))) (by decide)) hs hm fun r v G2 H2 hs2 hr2 hq => hq v G2 H2 hs2.fin hr2
            · have h_p_parts := (((rK zI)).mono e12 h_p_parts)
              have h_p_nets := (((rK rS)).mono e12 h_p_nets)
              have h_p_kinds := (((rK rS)).mono e12 h_p_kinds)
              have b12 := Same.refl G12
              refine w_asg (K := K) (tg_name (i := 5) (R := zI)) e_int hs hm (fun p_count vv15 G15 H15 e15 hs hv15 hm => ?_)
              obtain ⟨v_p_count, rfl, h_p_count⟩ := hv15
              cases (show v_p_count = V.int p_count from h_p_count)
              have h_p_parts := (((rK zI)).mono e15 h_p_parts)
              have h_p_nets := (((rK rS)).mono e15 h_p_nets)
              have h_p_kinds := (((rK rS)).mono e15 h_p_kinds)
              have b12 := Same.trans b12 e15
              refine (show (_ : TS) _ ([some (.str p_name), some v_p_parts, some v_p_nets, some v_p_kinds, some (.str p_kind), some (.int p_count), none] : L2.St) _ from ?_)
              exact J12.nx p_count _ _ _ _ _ b12 ⟨rfl, rfl⟩ (Same.refl _) hs hm
            · have h_p_parts := (((rK zI)).mono e12 h_p_parts)
              have h_p_nets := (((rK rS)).mono e12 h_p_nets)
              have h_p_kinds := (((rK rS)).mono e12 h_p_kinds)
              have b12 := Same.refl G12
              exact J12.nx p_count _ _ _ _ _ b12 ⟨rfl, rfl⟩ (Same.refl _) hs hm
          · have h_p_parts := (((rK zI)).mono e10 h_p_parts)
            have h_p_nets := (((rK rS)).mono e10 h_p_nets)
            have h_p_kinds := (((rK rS)).mono e10 h_p_kinds)
            have b10 := Same.refl G10
            refine w_asg (K := K) (tg_name (i := 5) (R := zI)) e_int hs hm (fun p_count vv16 G16 H16 e16 hs hv16 hm => ?_)
            obtain ⟨v_p_count, rfl, h_p_count⟩ := hv16
            cases (show v_p_count = V.int p_count from h_p_count)
            have h_p_parts := (((rK zI)).mono e16 h_p_parts)
            have h_p_nets := (((rK rS)).mono e16 h_p_nets)
            have h_p_kinds := (((rK rS)).mono e16 h_p_kinds)
            have b10 := Same.trans b10 e16
            refine (show (_ : TS) _ ([some (.str p_name), some v_p_parts, some v_p_nets, some v_p_kinds, some (.str p_kind), some (.int p_count), none] : L2.St) _ from ?_)
            exact J10.nx p_count _ _ _ _ _ b10 ⟨rfl, rfl⟩ (Same.refl _) hs hm
          · have h_p_parts := (((rK zI)).mono e10 h_p_parts)
            have h_p_nets := (((rK rS)).mono e10 h_p_nets)
            have h_p_kinds := (((rK rS)).mono e10 h_p_kinds)
            have b10 := Same.refl G10
            exact J10.nx p_count _ _ _ _ _ b10 ⟨rfl, rfl⟩ (Same.refl _) hs hm
        · have h_p_parts := (((rK zI)).mono e8 h_p_parts)
          have h_p_nets := (((rK rS)).mono e8 h_p_nets)
          have h_p_kinds := (((rK rS)).mono e8 h_p_kinds)
          have b8 := Same.refl G8
          refine w_asg (K := K) (tg_name (i := 5) (R := zI)) e_int hs hm (fun p_count vv17 G17 H17 e17 hs hv17 hm => ?_)
          obtain ⟨v_p_count, rfl, h_p_count⟩ := hv17
          cases (show v_p_count = V.int p_count from h_p_count)
          have h_p_parts := (((rK zI)).mono e17 h_p_parts)
          have h_p_nets := (((rK rS)).mono e17 h_p_nets)
          have h_p_kinds := (((rK rS)).mono e17 h_p_kinds)
          have b8 := Same.trans b8 e17
          refine (show (_ : TS) _ ([some (.str p_name), some v_p_parts, some v_p_nets, some v_p_kinds, some (.str p_kind), some (.int p_count), none] : L2.St) _ from ?_)
          exact J8.nx p_count _ _ _ _ _ b8 ⟨rfl, rfl⟩ (Same.refl _) hs hm
        · have h_p_parts := (((rK zI)).mono e8 h_p_parts)
          have h_p_nets := (((rK rS)).mono e8 h_p_nets)
          have h_p_kinds := (((rK rS)).mono e8 h_p_kinds)
          have b8 := Same.refl G8
          exact J8.nx p_count _ _ _ _ _ b8 ⟨rfl, rfl⟩ (Same.refl _) hs hm
      · have h_p_parts := (((rK zI)).mono e6 h_p_parts)
        have h_p_nets := (((rK rS)).mono e6 h_p_nets)
        have h_p_kinds := (((rK rS)).mono e6 h_p_kinds)
        have b6 := Same.refl G6
        refine w_asg (K := K) (tg_name (i := 5) (R := zI)) e_int hs hm (fun p_count vv18 G18 H18 e18 hs hv18 hm => ?_)
        obtain ⟨v_p_count, rfl, h_p_count⟩ := hv18
        cases (show v_p_count = V.int p_count from h_p_count)
        have h_p_parts := (((rK zI)).mono e18 h_p_parts)
        have h_p_nets := (((rK rS)).mono e18 h_p_nets)
        have h_p_kinds := (((rK rS)).mono e18 h_p_kinds)
        have b6 := Same.trans b6 e18
        refine (show (_ : TS) _ ([some (.str p_name), some v_p_parts, some v_p_nets, some v_p_kinds, some (.str p_kind), some (.int p_count), none] : L2.St) _ from ?_)
        exact J6.nx p_count _ _ _ _ _ b6 ⟨rfl, rfl⟩ (Same.refl _) hs hm
      · have h_p_parts := (((rK zI)).mono e6 h_p_parts)
        have h_p_nets := (((rK rS)).mono e6 h_p_nets)
        have h_p_kinds := (((rK rS)).mono e6 h_p_kinds)
        have b6 := Same.refl G6
        exact J6.nx p_count _ _ _ _ _ b6 ⟨rfl, rfl⟩ (Same.refl _) hs hm
    · have h_p_parts := (((rK zI)).mono e3 h_p_parts)
      have h_p_nets := (((rK rS)).mono e3 h_p_nets)
      have h_p_kinds := (((rK rS)).mono e3 h_p_kinds)
      have b3 := Same.refl G3
      refine w_asg (K := K) (tg_name (i := 4) (R := rS)) (e_ixL (e_KL (EvN.evK (e_lst (l_cons e_str (l_cons e_str l_nil)) (by decide)))) (e_ixL (e_KL (e_var (K := K) (i := 1) (R := (rK zI)) (x := p_parts) rfl h_p_parts)) e_int)) hs hm (fun p_kind vv19 G19 H19 e19 hs hv19 hm => ?_)
      obtain ⟨v_p_kind, rfl, h_p_kind⟩ := hv19
      cases (show v_p_kind = V.str p_kind from h_p_kind)
      have h_p_parts := (((rK zI)).mono e19 h_p_parts)
      have h_p_nets := (((rK rS)).mono e19 h_p_nets)
      have h_p_kinds := (((rK rS)).mono e19 h_p_kinds)
      have b3 := Same.trans b3 e19
      refine (show (_ : TS) _ ([some (.str p_name), some v_p_parts, some v_p_nets, some v_p_kinds, some (.str p_kind), none, none] : L2.St) _ from ?_)
      exact J3.nx p_kind _ _ _ _ _ b3 ⟨rfl, rfl⟩ (Same.refl _) hs hm
    · have h_p_parts := (((rK zI)).mono e3 h_p_parts)
      have h_p_nets := (((rK rS)).mono e3 h_p_nets)
      have h_p_kinds := (((rK rS)).mono e3 h_p_kinds)
      have b3 := Same.refl G3
      exact J3.nx p_kind _ _ _ _ _ b3 ⟨rfl, rfl⟩ (Same.refl _) hs hm

theorem ok_law_netlist {P : Program} {w : World} {K : PySem.W.Frag} {mg : Str → Option Value} {base : Heap} {cl : Nat → Addr} {fa : Addr} {fd : FuncData} (F : Fun K "_law_netlist" "_law_netlist" s_law_netlist fa fd) (T : Txt K mg cl) (C_law_parts : Cal P w K mg base "_law_parts" 1 ["cell", "sizes"] (spP K cl (rsC zI (rs1 (rK zI))) (rK zI) (fun a => m_law_parts (a.1) (a.2)))) (C_law_far : Cal P w K mg base "_law_far" 1 ["script", "k"] (spP K cl (rsC (rL zI) (rs1 zI)) zI (fun a => m_law_far (a.1) (a.2)))) (C_law_gate : Cal P w K mg base "_law_gate" 1 ["name", "parts", "nets"] (spP K cl (rsC rS (rsC (rK zI) (rs1 (rK rS)))) (rP (rsC rS (rsC rS (rs1 (rT rS))))) (fun a => m_law_gate (a.1) (a.2.1) (a.2.2)))) :
    FnOk P w K mg base (L2.CX P w) 2 fa fd ["script", "at", "sizes"] (spP K cl (rsC (rL zI) (rsC zI (rs1 (rK zI)))) (rP (rsC (rT rS) (rsC (rT rS) (rs1 (rT (rP (rsC rS (rsC rS (rs1 (rT rS)))))))))) (fun a => m_law_netlist (a.1) (a.2.1) (a.2.2))) := by
  refine F.okX sc_law_netlist (fun vs H Q E h => ?_) (fun cdv A outer s H vs Q E hr h => ?_)
  · obtain ⟨G, a, _, hS, _⟩ := h
    exact (lnC (lnC ln1)) _ _ _ _ hS
  · obtain ⟨G, ⟨p_script, p_at, p_sizes⟩, hg, hS, hm⟩ := h
    obtain ⟨v_p_script, _, rfl, h_p_script, v_p_at, _, rfl, h_p_at, v_p_sizes, rfl, h_p_sizes⟩ := hS
    cases (show v_p_at = V.int p_at from h_p_at)
    have tk : Takes (cxOf (L2.CX P w) P w K mg base N_law_netlist "_law_netlist" (defScope s_law_netlist) fa cdv A outer s H E) (fun cls d _ H => E cls d H) := takes_of rfl rfl rfl rfl
    refine ⟨_, (pss_cons (ps_set (i := 3) sc_law_netlist.nd rfl (by first | exact Or.inl rfl | exact Or.inr rfl) (pe_call (E := E) C_law_parts.ok (hr.mono (by decide)) rfl C_law_parts.mgx C_law_parts.kp C_law_parts.bd .nil (passes_call tk (fun _ _ _ _ h => h)) (pa_cons (pe_call (E := E) C_law_far.ok (hr.mono (by decide)) rfl C_law_far.mgx C_law_far.kp C_law_far.bd .nil (passes_call tk (fun _ _ _ _ h => h)) (pa_cons (pv 0) (pa_cons (pv 1) pa_nil))) (pa_cons (pe_op op_cat (pe_op op_rep (pe_lst (pa_cons pe_int pa_nil)) pe_int) (pe_lst (pa_cons pe_int (pa_cons pe_int (pa_cons pe_int pa_nil))))) pa_nil))))
     (pss_cons (ps_set (i := 4) sc_law_netlist.nd rfl (by first | exact Or.inl rfl | exact Or.inr rfl) (pe_ix (r := rIxS) ix_str pe_str (pe_ix (r := rIxL K) ix_list (pv 3) pe_int (fun _ _ => rfl)) (fun _ _ => rfl)))
     (pss_cons (ps_set (i := 6) sc_law_netlist.nd rfl (by first | exact Or.inl rfl | exact Or.inr rfl) (pe_op op_cat (pe_lc (own := [("k", 5)]) rfl sc_law_netlist.nd (pi_range1 rfl T.n_range (pa_cons (pe_ix (r := rIxL K) ix_list (pv 2) pe_int (fun _ _ => rfl)) pa_nil)) (blkOk_by (own := [("k", 5)]) (N := N_law_netlist) (sc := defScope s_law_netlist) (by decide +kernel)) (fun _ _ _ _ _ => (pg_name (i := 5) sc_law_netlist.nd rfl (by first | exact Or.inl rfl | exact Or.inr rfl))) (fun _ _ _ _ _ => pts_nil) (fun _ _ _ _ _ => (pe_op (r := rAddS) op_add_str (pv 4) (pe_callTy (r := rStrI) call_str_int (by rfl) T.n_str b_str (pa_cons (pv 5) pa_nil))))) (pe_lc (own := [("k", 5)]) rfl sc_law_netlist.nd (pi_range1 rfl T.n_range (pa_cons (pe_ix (r := rIxL K) ix_list (pv 2) pe_int (fun _ _ => rfl)) pa_nil)) (blkOk_by (own := [("k", 5)]) (N := N_law_netlist) (sc := defScope s_law_netlist) (by decide +kernel)) (fun _ _ _ _ _ => (pg_name (i := 5) sc_law_netlist.nd rfl (by first | exact Or.inl rfl | exact Or.inr rfl))) (fun _ _ _ _ _ => pts_nil) (fun _ _ _ _ _ => (pe_op (r := rAddS) op_add_str (pv 4) (pe_callTy (r := rStrI) call_str_int (by rfl) T.n_str b_str (pa_cons (pe_op op_add pe_int (pv 5)) pa_nil)))))))
     (pss_cons (ps_set (i := 7) sc_law_netlist.nd rfl (by first | exact Or.inl rfl | exact Or.inr rfl) (pe_lst pa_nil))
     (pss_cons (ps_for (passes_of rfl) rfl (pi_range1 rfl T.n_range (pa_cons (pe_ix (r := rIxL K) ix_list (pv 2) pe_int (fun _ _ => rfl)) pa_nil)) (pg_name (i := 5) sc_law_netlist.nd rfl (by first | exact Or.inl rfl | exact Or.inr rfl)) (pss_cons (ps_set (i := 8) sc_law_netlist.nd rfl (by first | exact Or.inl rfl | exact Or.inr rfl) (pe_call (E := E) C_law_parts.ok (hr.mono (by decide)) rfl C_law_parts.mgx C_law_parts.kp C_law_parts.bd .nil (passes_call tk (fun _ _ _ _ h => h)) (pa_cons (pe_call (E := E) C_law_far.ok (hr.mono (by decide)) rfl C_law_far.mgx C_law_far.kp C_law_far.bd .nil (passes_call tk (fun _ _ _ _ h => h)) (pa_cons (pv 0) (pa_cons (pe_op op_add (pe_op op_add (pv 1) pe_int) (pv 5)) pa_nil))) (pa_cons (pe_lst (pa_cons pe_int (pa_cons pe_int (pa_cons pe_int (pa_cons pe_int (pa_cons pe_int pa_nil)))))) pa_nil))))
     (pss_cons (ps_expr (pe_bm PySem.F.plainAttrs_list PySem.F.slot_list_append PySem.F.type_list_append mt_append (pv 7) (pa_cons (pe_call (E := E) C_law_gate.ok (hr.mono (by decide)) rfl C_law_gate.mgx C_law_gate.kp C_law_gate.bd .nil (passes_call tk (fun _ _ _ _ h => h)) (pa_cons (pe_op (r := rAddS) op_add_str (pv 4) (pe_callTy (r := rStrI) call_str_int (by rfl) T.n_str b_str (pa_cons (pe_op op_add pe_int (pv 5)) pa_nil))) (pa_cons (pv 8) (pa_cons (pv 6) pa_nil)))) pa_nil)))
     (pss_cons (ps_expr (pe_bm PySem.F.plainAttrs_list PySem.F.slot_list_append PySem.F.type_list_append mt_append (pv 6) (pa_cons (pe_ix (r := rIxT K) ix_tup (pe_ix (r := rIxL K) ix_list (pv 7) (pe_un un_neg pe_int) (fun _ _ => rfl)) pe_int (fun _ _ => rfl)) pa_nil)))
     pss_nil))))
     (pss_cons (ps_set (i := 9) sc_law_netlist.nd rfl (by first | exact Or.inl rfl | exact Or.inr rfl) (pe_callB (r := rMn2) (call_min2 rfl) (by rfl) T.n_min b_min (pa_cons (pe_callB (r := Mw.rLen K) call_len (by rfl) T.n_len b_len (pa_cons (pv 6) pa_nil)) (pa_cons (pe_op op_add (pe_ix (r := rIxL K) ix_list (pv 2) pe_int (fun _ _ => rfl)) (pe_ix (r := rIxL K) ix_list (pv 2) pe_int (fun _ _ => rfl))) pa_nil))))
     (pss_cons (ps_set (i := 10) sc_law_netlist.nd rfl (by first | exact Or.inl rfl | exact Or.inr rfl) (pe_op op_cat (pe_lc (own := [("k", 5)]) rfl sc_law_netlist.nd (pi_range1 rfl T.n_range (pa_cons (pe_ix (r := rIxL K) ix_list (pv 2) pe_int (fun _ _ => rfl)) pa_nil)) (blkOk_by (own := [("k", 5)]) (N := N_law_netlist) (sc := defScope s_law_netlist) (by decide +kernel)) (fun _ _ _ _ _ => (pg_name (i := 5) sc_law_netlist.nd rfl (by first | exact Or.inl rfl | exact Or.inr rfl))) (fun _ _ _ _ _ => pts_nil) (fun _ _ _ _ _ => (pe_tup (pa_cons (pe_ix (r := rIxL K) ix_list (pv 6) (pe_op op_add (pe_ix (r := rIxL K) ix_list (pv 2) pe_int (fun _ _ => rfl)) (pv 5)) (fun _ _ => rfl)) (pa_cons pe_str (pa_cons (pe_tup (pa_cons (pe_ix (r := rIxL K) ix_list (pv 6) (pe_op op_sub (pe_un un_neg pe_int) (pe_op op_mod (pe_callTy call_int1 (by rfl) T.n_int b_int (pa_cons (pe_ix (r := rIxL K) ix_list (pv 3) (pv 5) (fun _ _ => rfl)) pa_nil)) (pv 9))) (fun _ _ => rfl)) pa_nil)) pa_nil)))))) (pv 7)))
     (pss_cons (ps_set (i := 11) sc_law_netlist.nd rfl (by first | exact Or.inl rfl | exact Or.inr rfl) (pe_op op_mod (pe_callTy call_int1 (by rfl) T.n_int b_int (pa_cons (pe_ix (r := rIxL K) ix_list (pv 3) pe_int (fun _ _ => rfl)) pa_nil)) (pe_callB (r := Mw.rLen K) call_len (by rfl) T.n_len b_len (pa_cons (pv 10) pa_nil))))
     (pss_cons (ps_set (i := 10) sc_law_netlist.nd rfl (by first | exact Or.inl rfl | exact Or.inr rfl) (pe_op op_cat (pe_slice (r := rSlL K) sl_list (pv 10) (po_some (pv 11)) po_none) (pe_slice (r := rSlL K) sl_list (pv 10) po_none (po_some (pv 11)))))
     (pss_cons (ps_if (pt_cmpR op_eq (pe_ix (r := rIxL K) ix_list (pv 3) pe_int (fun _ _ => rfl)) pe_int (nomark _)) (pss_cons (ps_expr (pe_bm0 PySem.F.plainAttrs_list PySem.F.slot_list_reverse PySem.F.type_list_reverse mt_reverse (pv 10)))
     pss_nil) pss_nil)
     (pss_cons (ps_setLc (i := 12) (own := [("k", 5)]) rfl sc_law_netlist.nd rfl rfl (sw_true rfl rfl rfl (by decide +kernel)) (pi_range1 rfl T.n_range (pa_cons (pe_ix (r := rIxL K) ix_list (pv 2) pe_int (fun _ _ => rfl)) pa_nil)) (blkOk_by (own := [("k", 5)]) (N := N_law_netlist) (sc := defScope s_law_netlist) (by decide +kernel)) (fun _ _ _ _ _ => (pg_name (i := 5) sc_law_netlist.nd rfl (by first | exact Or.inl rfl | exact Or.inr rfl))) (fun _ _ _ _ _ => pts_nil) (fun _ _ _ _ _ => (pe_ix (r := rIxL K) ix_list (pv 6) (pe_op op_sub (pe_un un_neg pe_int) (pe_op op_mod (pe_callTy call_int1 (by rfl) T.n_int b_int (pa_cons (pe_ix (r := rIxL K) ix_list (pv 3) (pe_op op_add pe_int (pv 5)) (fun _ _ => rfl)) pa_nil)) (pv 9))) (fun _ _ => rfl))))
     (pss_cons (ps_if (pt_cmpR op_lt (pe_ix (r := rIxL K) ix_list (pv 3) pe_int (fun _ _ => rfl)) pe_int (nomark _)) (pss_cons (ps_asg (pe_ix (r := rIxL K) ix_list (pv 6) (pe_op op_mod (pe_callTy call_int1 (by rfl) T.n_int b_int (pa_cons (pe_ix (r := rIxL K) ix_list (pv 3) pe_int (fun _ _ => rfl)) pa_nil)) (pe_callB (r := Mw.rLen K) call_len (by rfl) T.n_len b_len (pa_cons (pv 6) pa_nil))) (fun _ _ => rfl)) (pg_sub (pv 12) pe_int set_list))
     pss_nil) pss_nil)
     (pss_cons (ps_ret (pe_tup (pa_cons (pe_callTy (r := rTu K) call_tuple_of (by rfl) T.n_tuple b_tuple (pa_cons (pe_slice (r := rSlL K) sl_list (pv 6) po_none (po_some (pe_ix (r := rIxL K) ix_list (pv 2) pe_int (fun _ _ => rfl)))) pa_nil)) (pa_cons (pe_callTy (r := rTu K) call_tuple_of (by rfl) T.n_tuple b_tuple (pa_cons (pv 12) pa_nil)) (pa_cons (pe_callTy (r := rTu K) call_tuple_of (by rfl) T.n_tuple b_tuple (pa_cons (pv 10) pa_nil)) pa_nil)))))
     pss_nil))))))))))))), ?_⟩
    have hs : Hs ⟨H, G, E, cl⟩ G [] H := Hs.start hg
    have hm := Wp.ofSp (G0 := G) hm
    try dsimp only at hm
    unfold m_law_netlist at hm
    refine (show (_ : TS) _ ([some v_p_script, some (.int p_at), some v_p_sizes, none, none, none, none, none, none, none, none, none, none] : L2.St) _ from ?_)
    refine w_asg (K := K) (tg_name (i := 3) (R := (rK zI))) (e_call (fm := ⟨H, G, E, cl⟩) (a_cons (e_call (fm := ⟨H, G, E, cl⟩) (a_cons (e_var (K := K) (i := 0) (R := (rL zI)) (x := p_script) rfl h_p_script) (a_one (e_var (K := K) (i := 1) (R := zI) (x := p_at) rfl rfl)))) (a_one (EvN.evK (n_cat (EvN.evK (n_rep (EvN.evK (e_lst (l_cons e_int l_nil) (by decide))) e_int)) (EvN.evK (e_lst (l_cons e_int (l_cons e_int (l_cons e_int l_nil))) (by decide)))))))) hs hm (fun p_tail vv1 G1 H1 e1 hs hv1 hm => ?_)
    obtain ⟨v_p_tail, rfl, h_p_tail⟩ := hv1
    have h_p_script := (((rL zI)).mono e1 h_p_script)
    have h_p_sizes := (((rK zI)).mono e1 h_p_sizes)
    refine (show (_ : TS) _ ([some v_p_script, some (.int p_at), some v_p_sizes, some v_p_tail, none, none, none, none, none, none, none, none, none] : L2.St) _ from ?_)
    refine w_asg (K := K) (tg_name (i := 4) (R := rS)) (e_ixS e_str (e_ixL (e_KL (e_var (K := K) (i := 3) (R := (rK zI)) (x := p_tail) rfl h_p_tail)) e_int)) hs hm (fun p_lead vv2 G2 H2 e2 hs hv2 hm => ?_)
    obtain ⟨v_p_lead, rfl, h_p_lead⟩ := hv2
    cases (show v_p_lead = V.str p_lead from h_p_lead)
    have h_p_script := (((rL zI)).mono e2 h_p_script)
    have h_p_sizes := (((rK zI)).mono e2 h_p_sizes)
    have h_p_tail := (((rK zI)).mono e2 h_p_tail)
    refine (show (_ : TS) _ ([some v_p_script, some (.int p_at), some v_p_sizes, some v_p_tail, some (.str p_lead), none, none, none, none, none, none, none, none] : L2.St) _ from ?_)
    refine w_asgN (K := K) (R := rS) (i := 6) (n_cat (EvN.evK (n_lc (S := rS) (i_rng1 (e_ixL (e_KL (e_var (K := K) (i := 2) (R := (rK zI)) (x := p_sizes) rfl h_p_sizes)) e_int)) (fun _ h => nomatch h) (tg_name (i := 5) (R := zI)) (by decide) (fun x3 vs3 G3 e3 hv3 => by
     obtain ⟨v3_p_k, rfl, h3_p_k⟩ := hv3
     exact ⟨t_yes, (e_addS (e_var (K := K) (i := 4) (R := rS) (x := p_lead) rfl rfl) (e_strI (e_var (K := K) (i := 5) (R := zI) (x := x3) rfl h3_p_k)))⟩))) (EvN.evK (n_lc (S := rS) (i_rng1 (e_ixL (e_KL (e_var (K := K) (i := 2) (R := (rK zI)) (x := p_sizes) rfl h_p_sizes)) e_int)) (fun _ h => nomatch h) (tg_name (i := 5) (R := zI)) (by decide) (fun x4 vs4 G4 e4 hv4 => by
     obtain ⟨v4_p_k, rfl, h4_p_k⟩ := hv4
     exact ⟨t_yes, (e_addS (e_var (K := K) (i := 4) (R := rS) (x := p_lead) rfl rfl) (e_strI (e_add e_int (e_var (K := K) (i := 5) (R := zI) (x := x4) rfl h4_p_k))))⟩)))) hs hm (fun p_nets l_p_nets vs_p_nets G5 H5 e5 hs h5 hm => ?_)
    have h_p_script := (((rL zI)).mono e5 h_p_script)
    have h_p_sizes := (((rK zI)).mono e5 h_p_sizes)
    have h_p_tail := (((rK zI)).mono e5 h_p_tail)
    have h_p_nets := h5
    refine (show (_ : TS) _ ([some v_p_script, some (.int p_at), some v_p_sizes, some v_p_tail, some (.str p_lead), none, some (.ref l_p_nets), none, none, none, none, none, none] : L2.St) _ from ?_)
    refine w_asgN (K := K) (R := (rP (rsC rS (rsC rS (rs1 (rT rS)))))) (i := 7) (e_lst l_nil (by decide)) hs hm (fun p_order l_p_order vs_p_order G6 H6 e6 hs h6 hm => ?_)
    have h_p_script := (((rL zI)).mono e6 h_p_script)
    have h_p_sizes := (((rK zI)).mono e6 h_p_sizes)
    have h_p_tail := (((rK zI)).mono e6 h_p_tail)
    have h_p_nets := RLs.mono e6 h_p_nets
    have h_p_order := h6
    refine (show (_ : TS) _ ([some v_p_script, some (.int p_at), some v_p_sizes, some v_p_tail, some (.str p_lead), none, some (.ref l_p_nets), some (.ref l_p_order), none, none, none, none, none] : L2.St) _ from ?_)
    refine w_forM (K := K) (fun (s : (List (Str × Str × (List Str))) × (List Str)) (σ : L2.St) (G : Hp) (O : Own) => match s with | (p_order, p_nets) => ∃ (l_p_order : Addr) (vs_p_order : List V) (l_p_nets : Addr) (vs_p_nets : List V) (d_5 : Option V) (d_8 : Option V), σ = [some v_p_script, some (.int p_at), some v_p_sizes, some v_p_tail, some (.str p_lead), d_5, some (.ref l_p_nets), some (.ref l_p_order), d_8, none, none, none, none] ∧ O = [(l_p_order, .lst vs_p_order), (l_p_nets, .lst vs_p_nets)] ∧ RLs (rP (rsC rS (rsC rS (rs1 (rT rS))))) K G vs_p_order p_order ∧ RLs rS K G vs_p_nets p_nets) (i_rng1 (e_ixL (e_KL (e_var (K := K) (i := 2) (R := (rK zI)) (x := p_sizes) rfl h_p_sizes)) e_int)) (fun _ _ _ _ _ _ h => nomatch h) (tg_name (i := 5) (R := zI)) hs hm ⟨l_p_order, vs_p_order, l_p_nets, vs_p_nets, none, none, rfl, rfl, h_p_order, h_p_nets⟩ (fun p_k s_ σ_ G1_7 G7 O_ H7 vv7 D7 Qb7 e7 w_ e17 hs hv7 E7 hm => ?_) (fun s_ σ_ G1_7 G7 O_ H7 e7 w_ e17 hs hm => ?_)
    · obtain ⟨p_order, p_nets⟩ := s_
      obtain ⟨l_p_order, vs_p_order, l_p_nets, vs_p_nets, d_5, d_8, rfl, rfl, h_p_order, h_p_nets⟩ := w_
      have h_p_script := (((rL zI)).mono e7 h_p_script)
      have h_p_sizes := (((rK zI)).mono e7 h_p_sizes)
      have h_p_tail := (((rK zI)).mono e7 h_p_tail)
      have h_p_nets := RLs.mono e17 h_p_nets
      have h_p_order := RLs.mono e17 h_p_order
      obtain ⟨v_p_k, rfl, h_p_k⟩ := hv7
      cases (show v_p_k = V.int p_k from h_p_k)
      have b7 := Same.refl G7
      refine (show (_ : TS) _ ([some v_p_script, some (.int p_at), some v_p_sizes, some v_p_tail, some (.str p_lead), some (.int p_k), some (.ref l_p_nets), some (.ref l_p_order), d_8, none, none, none, none] : L2.St) _ from ?_)
      unfold m_law_netlist_b30 at hm
      try dsimp only at hm
      refine w_asg (K := K) (tg_name (i := 8) (R := (rK zI))) (e_call (fm := ⟨H, G, E, cl⟩) (a_cons (e_call (fm := ⟨H, G, E, cl⟩) (a_cons (e_var (K := K) (i := 0) (R := (rL zI)) (x := p_script) rfl h_p_script) (a_one (e_add (e_add (e_var (K := K) (i := 1) (R := zI) (x := p_at) rfl rfl) e_int) (e_var (K := K) (i := 5) (R := zI) (x := p_k) rfl rfl))))) (a_one (EvN.evK (e_lst (l_cons e_int (l_cons e_int (l_cons e_int (l_cons e_int (l_cons e_int l_nil))))) (by decide)))))) hs hm (fun p_parts vv8 G8 H8 e8 hs hv8 hm => ?_)
      obtain ⟨v_p_parts, rfl, h_p_parts⟩ := hv8
      have h_p_script := (((rL zI)).mono e8 h_p_script)
      have h_p_sizes := (((rK zI)).mono e8 h_p_sizes)
      have h_p_tail := (((rK zI)).mono e8 h_p_tail)
      have h_p_nets := RLs.mono e8 h_p_nets
      have h_p_order := RLs.mono e8 h_p_order
      have b7 := Same.trans b7 e8
      refine (show (_ : TS) _ ([some v_p_script, some (.int p_at), some v_p_sizes, some v_p_tail, some (.str p_lead), some (.int p_k), some (.ref l_p_nets), some (.ref l_p_order), some v_p_parts, none, none, none, none] : L2.St) _ from ?_)
      refine w_app (K := K) (i := 7) 0 (xs := p_order) rfl rfl h_p_order (e_lendN (nl_P (nlsC nl_S (nlsC nl_S (nls1 (nl_T nl_S))))) ⟨_, rfl⟩ (l := l_p_nets) (o := HO.lst vs_p_nets) (List.mem_of_getElem? (i := 1) rfl) (e_call (fm := ⟨H, G, E, cl⟩) (a_cons (e_addS (e_var (K := K) (i := 4) (R := rS) (x := p_lead) rfl rfl) (e_strI (e_add e_int (e_var (K := K) (i := 5) (R := zI) (x := p_k) rfl rfl)))) (a_cons (e_var (K := K) (i := 8) (R := (rK zI)) (x := p_parts) rfl (((rK zI)).mono (same_new (o := HO.lst vs_p_nets) (hs.at 1 rfl).2.1) h_p_parts)) (a_one (e_own (i := 6) (l := l_p_nets) (R := rS) rfl upd_same (RLs.mono (same_new (o := HO.lst vs_p_nets) (hs.at 1 rfl).2.1) h_p_nets))))))) hs hm (fun y9 w9 G9 H9 e9 hs h9 hm => ?_)
      have h_p_script := (((rL zI)).mono e9 h_p_script)
      have h_p_sizes := (((rK zI)).mono e9 h_p_sizes)
      have h_p_tail := (((rK zI)).mono e9 h_p_tail)
      have h_p_nets := RLs.mono e9 h_p_nets
      have h_p_parts := (((rK zI)).mono e9 h_p_parts)
      have b7 := Same.trans b7 e9
      have h_p_order := h9
      generalize p_order ++ [y9] = p_order at hm h_p_order
      generalize vs_p_order ++ [w9] = vs_p_order at hs h_p_order
      refine w_app (K := K) (i := 6) 1 (xs := p_nets) rfl rfl h_p_nets (e_proj (k := 0) pj0 (e_ixO (i := 7) (l := l_p_order) rfl (List.mem_of_getElem? (i := 0) rfl) h_p_order (e_neg e_int))) hs hm (fun y10 w10 G10 H10 e10 hs h10 hm => ?_)
      have h_p_script := (((rL zI)).mono e10 h_p_script)
      have h_p_sizes := (((rK zI)).mono e10 h_p_sizes)
      have h_p_tail := (((rK zI)).mono e10 h_p_tail)
      have h_p_order := RLs.mono e10 h_p_order
      have h_p_parts := (((rK zI)).mono e10 h_p_parts)
      have b7 := Same.trans b7 e10
      have h_p_nets := h10
      generalize p_nets ++ [y10] = p_nets at hm h_p_nets
      generalize vs_p_nets ++ [w10] = vs_p_nets at hs h_p_nets
      exact E7.nx (p_order, p_nets) _ _ _ _ _ b7 ⟨l_p_order, vs_p_order, l_p_nets, vs_p_nets, some (.int p_k), some v_p_parts, rfl, rfl, h_p_order, h_p_nets⟩ (Same.refl _) hs hm.out
    · obtain ⟨p_order, p_nets⟩ := s_
      obtain ⟨l_p_order, vs_p_order, l_p_nets, vs_p_nets, d_5, d_8, rfl, rfl, h_p_order, h_p_nets⟩ := w_
      have h_p_script := (((rL zI)).mono e7 h_p_script)
      have h_p_sizes := (((rK zI)).mono e7 h_p_sizes)
      have h_p_tail := (((rK zI)).mono e7 h_p_tail)
      have h_p_nets := RLs.mono e17 h_p_nets
      have h_p_order := RLs.mono e17 h_p_order
      refine (show (_ : TS) _ ([some v_p_script, some (.int p_at), some v_p_sizes, some v_p_tail, some (.str p_lead), d_5, some (.ref l_p_nets), some (.ref l_p_order), d_8, none, none, none, none] : L2.St) _ from ?_)
      try dsimp only at hm
      refine w_asg (K := K) (tg_name (i := 9) (R := zI)) (e_min2 (e_lenO (i := 6) (l := l_p_nets) rfl (List.mem_of_getElem? (i := 1) rfl) h_p_nets) (e_add (e_ixL (e_KL (e_var (K := K) (i := 2) (R := (rK zI)) (x := p_sizes) rfl h_p_sizes)) e_int) (e_ixL (e_KL (e_var (K := K) (i := 2) (R := (rK zI)) (x := p_sizes) rfl h_p_sizes)) e_int))) hs hm (fun p_near vv11 G11 H11 e11 hs hv11 hm => ?_)
      obtain ⟨v_p_near, rfl, h_p_near⟩ := hv11
      cases (show v_p_near = V.int p_near from h_p_near)
      have h_p_script := (((rL zI)).mono e11 h_p_script)
      have h_p_sizes := (((rK zI)).mono e11 h_p_sizes)
      have h_p_tail := (((rK zI)).mono e11 h_p_tail)
      have h_p_nets := RLs.mono e11 h_p_nets
      have h_p_order := RLs.mono e11 h_p_order
      refine (show (_ : TS) _ ([some v_p_script, some (.int p_at), some v_p_sizes, some v_p_tail, some (.str p_lead), d_5, some (.ref l_p_nets), some (.ref l_p_order), d_8, some (.int p_near), none, none, none] : L2.St) _ from ?_)
      have ng13 := (hs.at 0 rfl).2.1
      have eg13 := same_new (o := HO.lst vs_p_order) ng13
      have hs := hs.give 0 rfl
      have h_p_order : (rK (rP (rsC rS (rsC rS (rs1 (rT rS)))))).r K _ (.ref l_p_order) p_order := ⟨l_p_order, vs_p_order, rfl, upd_same, RLs.mono eg13 h_p_order⟩
      have h_p_script := (((rL zI)).mono eg13 h_p_script)
      have h_p_sizes := (((rK zI)).mono eg13 h_p_sizes)
      have h_p_tail := (((rK zI)).mono eg13 h_p_tail)
      have h_p_nets := RLs.mono eg13 h_p_nets
      refine w_asgN (K := K) (R := (rP (rsC rS (rsC rS (rs1 (rT rS)))))) (i := 10) (n_cat (EvN.evK (n_lc (S := (rP (rsC rS (rsC rS (rs1 (rT rS)))))) (i_rng1 (e_ixL (e_KL (e_var (K := K) (i := 2) (R := (rK zI)) (x := p_sizes) rfl h_p_sizes)) e_int)) (fun _ h => nomatch h) (tg_name (i := 5) (R := zI)) (by decide) (fun x14 vs14 G14 e14 hv14 => by
       obtain ⟨v14_p_k, rfl, h14_p_k⟩ := hv14
       exact ⟨t_yes, (e_tup (lnC (lnC ln1)) (a_cons (e_ixO (i := 6) (l := l_p_nets) rfl (List.mem_of_getElem? (i := 0) rfl) (RLs.mono e14 h_p_nets) (e_add (e_ixL (e_KL (e_var (K := K) (i := 2) (R := (rK zI)) (x := p_sizes) rfl (((rK zI)).mono e14 h_p_sizes))) e_int) (e_var (K := K) (i := 5) (R := zI) (x := x14) rfl h14_p_k))) (a_cons e_str (a_one (e_tupT (l_cons (e_ixO (i := 6) (l := l_p_nets) rfl (List.mem_of_getElem? (i := 0) rfl) (RLs.mono e14 h_p_nets) (e_sub (e_neg e_int) (e_mod (e_intI (e_ixL (e_KL (e_var (K := K) (i := 3) (R := (rK zI)) (x := p_tail) rfl (((rK zI)).mono e14 h_p_tail))) (e_var (K := K) (i := 5) (R := zI) (x := x14) rfl h14_p_k))) (e_var (K := K) (i := 9) (R := zI) (x := p_near) rfl rfl)))) l_nil) (by decide))))) (by decide))⟩))) (e_var (K := K) (i := 7) (R := (rK (rP (rsC rS (rsC rS (rs1 (rT rS))))))) (x := p_order) rfl h_p_order)) hs hm (fun p_rows l_p_rows vs_p_rows G15 H15 e15 hs h15 hm => ?_)
      have h_p_script := (((rL zI)).mono e15 h_p_script)
      have h_p_sizes := (((rK zI)).mono e15 h_p_sizes)
      have h_p_tail := (((rK zI)).mono e15 h_p_tail)
      have h_p_nets := RLs.mono e15 h_p_nets
      have h_p_order := (((rK (rP (rsC rS (rsC rS (rs1 (rT rS))))))).mono e15 h_p_order)
      have h_p_rows := h15
      refine (show (_ : TS) _ ([some v_p_script, some (.int p_at), some v_p_sizes, some v_p_tail, some (.str p_lead), d_5, some (.ref l_p_nets), some (.ref l_p_order), d_8, some (.int p_near), some (.ref l_p_rows), none, none] : L2.St) _ from ?_)
      refine w_asg (K := K) (tg_name (i := 11) (R := zI)) (e_mod (e_intI (e_ixL (e_KL (e_var (K := K) (i := 3) (R := (rK zI)) (x := p_tail) rfl h_p_tail)) e_int)) (e_lenO (i := 10) (l := l_p_rows) rfl (List.mem_of_getElem? (i := 0) rfl) h_p_rows)) hs hm (fun p_turn vv16 G16 H16 e16 hs hv16 hm => ?_)
      obtain ⟨v_p_turn, rfl, h_p_turn⟩ := hv16
      cases (show v_p_turn = V.int p_turn from h_p_turn)
      have h_p_script := (((rL zI)).mono e16 h_p_script)
      have h_p_sizes := (((rK zI)).mono e16 h_p_sizes)
      have h_p_tail := (((rK zI)).mono e16 h_p_tail)
      have h_p_nets := RLs.mono e16 h_p_nets
      have h_p_order := (((rK (rP (rsC rS (rsC rS (rs1 (rT rS))))))).mono e16 h_p_order)
      have h_p_rows := RLs.mono e16 h_p_rows
      refine (show (_ : TS) _ ([some v_p_script, some (.int p_at), some v_p_sizes, some v_p_tail, some (.str p_lead), d_5, some (.ref l_p_nets), some (.ref l_p_order), d_8, some (.int p_near), some (.ref l_p_rows), some (.int p_turn), none] : L2.St) _ from ?_)
      have ng17 := (hs.at 0 rfl).2.1
      have eg17 := same_new (o := HO.lst vs_p_rows) ng17
      have hs := hs.give 0 rfl
      have h_p_rows : (rK (rP (rsC rS (rsC rS (rs1 (rT rS)))))).r K _ (.ref l_p_rows) p_rows := ⟨l_p_rows, vs_p_rows, rfl, upd_same, RLs.mono eg17 h_p_rows⟩
      have h_p_script := (((rL zI)).mono eg17 h_p_script)
      have h_p_sizes := (((rK zI)).mono eg17 h_p_sizes)
      have h_p_tail := (((rK zI)).mono eg17 h_p_tail)
      have h_p_nets := RLs.mono eg17 h_p_nets
      have h_p_order := (((rK (rP (rsC rS (rsC rS (rs1 (rT rS))))))).mono eg17 h_p_order)
      refine w_asgN (K := K) (R := (rP (rsC rS (rsC rS (rs1 (rT rS)))))) (i := 10) (n_cat (EvN.evK (n_slice (e_KL (e_var (K := K) (i := 10) (R := (rK (rP (rsC rS (rsC rS (rs1 (rT rS))))))) (x := p_rows) rfl h_p_rows)) (o_some (K := K) (e_var (K := K) (i := 11) (R := zI) (x := p_turn) rfl rfl)) o_none)) (EvN.evK (n_slice (e_KL (e_var (K := K) (i := 10) (R := (rK (rP (rsC rS (rsC rS (rs1 (rT rS))))))) (x := p_rows) rfl h_p_rows)) o_none (o_some (K := K) (e_var (K := K) (i := 11) (R := zI) (x := p_turn) rfl rfl))))) hs hm (fun p_rows l_p_rows vs_p_rows G18 H18 e18 hs h18 hm => ?_)
      have h_p_script := (((rL zI)).mono e18 h_p_script)
      have h_p_sizes := (((rK zI)).mono e18 h_p_sizes)
      have h_p_tail := (((rK zI)).mono e18 h_p_tail)
      have h_p_nets := RLs.mono e18 h_p_nets
      have h_p_order := (((rK (rP (rsC rS (rsC rS (rs1 (rT rS))))))).mono e18 h_p_order)
      have h_p_rows := h18
      refine (show (_ : TS) _ ([some v_p_script, some (.int p_at), some v_p_sizes, some v_p_tail, some (.str p_lead), d_5, some (.ref l_p_nets), some (.ref l_p_order), d_8, some (.int p_near), some (.ref l_p_rows), some (.int p_turn), none] : L2.St) _ from ?_)
      refine w_ifJ (k := fun s_ => (m_law_netlist_j20 p_sizes p_tail p_nets p_near s_)) (fun (p_rows : (List (Str × Str × (List Str)))) (σ : L2.St) (G : Hp) (O : Own) => ∃ (l_p_rows : Addr) (vs_p_rows : List V), σ = [some v_p_script, some (.int p_at), some v_p_sizes, some v_p_tail, some (.str p_lead), d_5, some (.ref l_p_nets), some (.ref l_p_order), d_8, some (.int p_near), some (.ref l_p_rows), some (.int p_turn), none] ∧ O = [(l_p_rows, .lst vs_p_rows), (l_p_nets, .lst vs_p_nets)] ∧ RLs (rP (rsC rS (rsC rS (rs1 (rT rS))))) K G vs_p_rows p_rows) (t_test (K := K) (e_eq srI (e_ixL (e_KL (e_var (K := K) (i := 3) (R := (rK zI)) (x := p_tail) rfl h_p_tail)) e_int) e_int)) hs hm (fun p_rows σ_ G1_19 G19 O_ H19 e19 w_ e119 hs hm => ?_) (fun G19 H19 J19 e19 hs hm => ?_) (fun G19 H19 J19 e19 hs hm => ?_)
      · obtain ⟨l_p_rows, vs_p_rows, rfl, rfl, h_p_rows⟩ := w_
        have h_p_script := (((rL zI)).mono e19 h_p_script)
        have h_p_sizes := (((rK zI)).mono e19 h_p_sizes)
        have h_p_tail := (((rK zI)).mono e19 h_p_tail)
        have h_p_nets := RLs.mono e19 h_p_nets
        have h_p_order := (((rK (rP (rsC rS (rsC rS (rs1 (rT rS))))))).mono e19 h_p_order)
        have h_p_rows := RLs.mono e119 h_p_rows
        refine (show (_ : TS) _ ([some v_p_script, some (.int p_at), some v_p_sizes, some v_p_tail, some (.str p_lead), d_5, some (.ref l_p_nets), some (.ref l_p_order), d_8, some (.int p_near), some (.ref l_p_rows), some (.int p_turn), none] : L2.St) _ from ?_)
        unfold m_law_netlist_j20 at hm
        try dsimp only at hm
        refine w_asgN (K := K) (R := rS) (i := 12) (n_lc (S := rS) (i_rng1 (e_ixL (e_KL (e_var (K := K) (i := 2) (R := (rK zI)) (x := p_sizes) rfl h_p_sizes)) e_int)) (fun _ h => nomatch h) (tg_name (i := 5) (R := zI)) (by decide) (fun x21 vs21 G21 e21 hv21 => by
         obtain ⟨v21_p_k, rfl, h21_p_k⟩ := hv21
         exact ⟨t_yes, (e_ixO (i := 6) (l := l_p_nets) rfl (List.mem_of_getElem? (i := 1) rfl) (RLs.mono e21 h_p_nets) (e_sub (e_neg e_int) (e_mod (e_intI (e_ixL (e_KL (e_var (K := K) (i := 3) (R := (rK zI)) (x := p_tail) rfl (((rK zI)).mono e21 h_p_tail))) (e_add e_int (e_var (K := K) (i := 5) (R := zI) (x := x21) rfl h21_p_k)))) (e_var (K := K) (i := 9) (R := zI) (x := p_near) rfl rfl))))⟩)) hs hm (fun p_outputs l_p_outputs vs_p_outputs G22 H22 e22 hs h22 hm => ?_)
        have h_p_script := (((rL zI)).mono e22 h_p_script)
        have h_p_sizes := (((rK zI)).mono e22 h_p_sizes)
        have h_p_tail := (((rK zI)).mono e22 h_p_tail)
        have h_p_nets := RLs.mono e22 h_p_nets
        have h_p_order := (((rK (rP (rsC rS (rsC rS (rs1 (rT rS))))))).mono e22 h_p_order)
        have h_p_rows := RLs.mono e22 h_p_rows
        have h_p_outputs := h22
        refine (show (_ : TS) _ ([some v_p_script, some (.int p_at), some v_p_sizes, some v_p_tail, some (.str p_lead), d_5, some (.ref l_p_nets), some (.ref l_p_order), d_8, some (.int p_near), some (.ref l_p_rows), some (.int p_turn), some (.ref l_p_outputs)] : L2.St) _ from ?_)
        refine w_ifJ (k := fun s_ => (m_law_netlist_j24 p_sizes p_nets p_rows s_)) (fun (p_outputs : (List Str)) (σ : L2.St) (G : Hp) (O : Own) => ∃ (l_p_outputs : Addr) (vs_p_outputs : List V), σ = [some v_p_script, some (.int p_at), some v_p_sizes, some v_p_tail, some (.str p_lead), d_5, some (.ref l_p_nets), some (.ref l_p_order), d_8, some (.int p_near), some (.ref l_p_rows), some (.int p_turn), some (.ref l_p_outputs)] ∧ O = [(l_p_outputs, .lst vs_p_outputs), (l_p_rows, .lst vs_p_rows), (l_p_nets, .lst vs_p_nets)] ∧ RLs rS K G vs_p_outputs p_outputs) (t_test (K := K) (e_cmp (p := fun i j => decide (i < j)) (e_ixL (e_KL (e_var (K := K) (i := 3) (R := (rK zI)) (x := p_tail) rfl h_p_tail)) e_int) e_int)) hs hm (fun p_outputs σ_ G1_23 G23 O_ H23 e23 w_ e123 hs hm => ?_) (fun G23 H23 J23 e23 hs hm => ?_) (fun G23 H23 J23 e23 hs hm => ?_)
        · obtain ⟨l_p_outputs, vs_p_outputs, rfl, rfl, h_p_outputs⟩ := w_
          have h_p_script := (((rL zI)).mono e23 h_p_script)
          have h_p_sizes := (((rK zI)).mono e23 h_p_sizes)
          have h_p_tail := (((rK zI)).mono e23 h_p_tail)
          have h_p_nets := RLs.mono e23 h_p_nets
          have h_p_order := (((rK (rP (rsC rS (rsC rS (rs1 (rT rS))))))).mono e23 h_p_order)
          have h_p_rows := RLs.mono e23 h_p_rows
          have h_p_outputs := RLs.mono e123 h_p_outputs
          refine (show (_ : TS) _ ([some v_p_script, some (.int p_at), some v_p_sizes, some v_p_tail, some (.str p_lead), d_5, some (.ref l_p_nets), some (.ref l_p_order), d_8, some (.int p_near), some (.ref l_p_rows), some (.int p_turn), some (.ref l_p_outputs)] : L2.St) _ from ?_)
          unfold m_law_netlist_j24 at hm
          try dsimp only at hm
          have ng25 := (hs.at 2 rfl).2.1
          have eg25 := same_new (o := HO.lst vs_p_nets) ng25
          have hs := hs.give 2 rfl
          have h_p_nets : (rK rS).r K _ (.ref l_p_nets) p_nets := ⟨l_p_nets, vs_p_nets, rfl, upd_same, RLs.mono eg25 h_p_nets⟩
          have h_p_script := (((rL zI)).mono eg25 h_p_script)
          have h_p_sizes := (((rK zI)).mono eg25 h_p_sizes)
          have h_p_tail := (((rK zI)).mono eg25 h_p_tail)
          have h_p_order := (((rK (rP (rsC rS (rsC rS (rs1 (rT rS))))))).mono eg25 h_p_order)
          have h_p_rows := RLs.mono eg25 h_p_rows
          have h_p_outputs := RLs.mono eg25 h_p_outputs
          have ng26 := (hs.at 0 rfl).2.1
          have eg26 := same_new (o := HO.lst vs_p_outputs) ng26
          have hs := hs.give 0 rfl
          have h_p_outputs : (rK rS).r K _ (.ref l_p_outputs) p_outputs := ⟨l_p_outputs, vs_p_outputs, rfl, upd_same, RLs.mono eg26 h_p_outputs⟩
          have h_p_script := (((rL zI)).mono eg26 h_p_script)
          have h_p_sizes := (((rK zI)).mono eg26 h_p_sizes)
          have h_p_tail := (((rK zI)).mono eg26 h_p_tail)
          have h_p_nets := (((rK rS)).mono eg26 h_p_nets)
          have h_p_order := (((rK (rP (rsC rS (rsC rS (rs1 (rT rS))))))).mono eg26 h_p_order)
          have h_p_rows := RLs.mono eg26 h_p_rows
          have ng27 := (hs.at 0 rfl).2.1
          have eg27 := same_new (o := HO.lst vs_p_rows) ng27
          have hs := hs.give 0 rfl
          have h_p_rows : (rK (rP (rsC rS (rsC rS (rs1 (rT rS)))))).r K _ (.ref l_p_rows) p_rows := ⟨l_p_rows, vs_p_rows, rfl, upd_same, RLs.mono eg27 h_p_rows⟩
          have h_p_script := (((rL zI)).mono eg27 h_p_script)
          have h_p_sizes := (((rK zI)).mono eg27 h_p_sizes)
          have h_p_tail := (((rK zI)).mono eg27 h_p_tail)
          have h_p_nets := (((rK rS)).mono eg27 h_p_nets)
          have h_p_order := (((rK (rP (rsC rS (rsC rS (rs1 (rT rS))))))).mono eg27 h_p_order)
          have h_p_outputs := (((rK rS)).mono eg27 h_p_outputs)
          exact w_ret0 (K := K) (e_tup (lnC (lnC ln1)) (a_cons (e_tupleL (e_KL (EvN.evK (n_slice (e_KL (e_var (K := K) (i := 6) (R := (rK rS)) (x := p_nets) rfl h_p_nets)) o_none (o_some (K := K) (e_ixL (e_KL (e_var (K := K) (i := 2) (R := (rK zI)) (x := p_sizes) rfl h_p_sizes)) e_int)))))) (a_cons (e_tupleL (e_KL (e_var (K := K) (i := 12) (R := (rK rS)) (x := p_outputs) rfl h_p_outputs))) (a_one (e_tupleL (e_KL (e_var (K := K) (i := 10) (R := (rK (rP (rsC rS (rsC rS (rs1 (rT rS))))))) (x := p_rows) rfl h_p_rows)))))) (by decide)) hs hm fun r v G2 H2 hs2 hr2 hq => hq v G2 H2 hs2.fin hr2
        · have h_p_script := (((rL zI)).mono e23 h_p_script)
          have h_p_sizes := (((rK zI)).mono e23 h_p_sizes)
          have h_p_tail := (((rK zI)).mono e23 h_p_tail)
          have h_p_nets := RLs.mono e23 h_p_nets
          have h_p_order := (((rK (rP (rsC rS (rsC rS (rs1 (rT rS))))))).mono e23 h_p_order)
          have h_p_rows := RLs.mono e23 h_p_rows
          have h_p_outputs := RLs.mono e23 h_p_outputs
          have b23 := Same.refl G23
          refine w_set (K := K) (i := 12) 0 (xs := p_outputs) rfl rfl h_p_outputs (e_ixO (i := 6) (l := l_p_nets) rfl (List.mem_of_getElem? (i := 2) rfl) h_p_nets (e_mod (e_intI (e_ixL (e_KL (e_var (K := K) (i := 3) (R := (rK zI)) (x := p_tail) rfl h_p_tail)) e_int)) (e_lenO (i := 6) (l := l_p_nets) rfl (List.mem_of_getElem? (i := 2) rfl) h_p_nets))) e_int hs hm (fun p_outputs vs_p_outputs G28 H28 e28 hs h28 hm => ?_)
          have h_p_script := (((rL zI)).mono e28 h_p_script)
          have h_p_sizes := (((rK zI)).mono e28 h_p_sizes)
          have h_p_tail := (((rK zI)).mono e28 h_p_tail)
          have h_p_nets := RLs.mono e28 h_p_nets
          have h_p_order := (((rK (rP (rsC rS (rsC rS (rs1 (rT rS))))))).mono e28 h_p_order)
          have h_p_rows := RLs.mono e28 h_p_rows
          have b23 := Same.trans b23 e28
          have h_p_outputs := h28
          exact J23.nx p_outputs _ _ _ _ _ b23 ⟨l_p_outputs, vs_p_outputs, rfl, rfl, h_p_outputs⟩ (Same.refl _) hs hm
        · have h_p_script := (((rL zI)).mono e23 h_p_script)
          have h_p_sizes := (((rK zI)).mono e23 h_p_sizes)
          have h_p_tail := (((rK zI)).mono e23 h_p_tail)
          have h_p_nets := RLs.mono e23 h_p_nets
          have h_p_order := (((rK (rP (rsC rS (rsC rS (rs1 (rT rS))))))).mono e23 h_p_order)
          have h_p_rows := RLs.mono e23 h_p_rows
          have h_p_outputs := RLs.mono e23 h_p_outputs
          have b23 := Same.refl G23
          exact J23.nx p_outputs _ _ _ _ _ b23 ⟨l_p_outputs, vs_p_outputs, rfl, rfl, h_p_outputs⟩ (Same.refl _) hs hm
      · have h_p_script := (((rL zI)).mono e19 h_p_script)
        have h_p_sizes := (((rK zI)).mono e19 h_p_sizes)
        have h_p_tail := (((rK zI)).mono e19 h_p_tail)
        have h_p_nets := RLs.mono e19 h_p_nets
        have h_p_order := (((rK (rP (rsC rS (rsC rS (rs1 (rT rS))))))).mono e19 h_p_order)
        have h_p_rows := RLs.mono e19 h_p_rows
        have b19 := Same.refl G19
        refine w_reverse (K := K) (i := 10) 0 (xs := p_rows) rfl rfl h_p_rows hs hm (fun p_rows vs_p_rows G29 H29 e29 hs h29 hm => ?_)
        have h_p_script := (((rL zI)).mono e29 h_p_script)
        have h_p_sizes := (((rK zI)).mono e29 h_p_sizes)
        have h_p_tail := (((rK zI)).mono e29 h_p_tail)
        have h_p_nets := RLs.mono e29 h_p_nets
        have h_p_order := (((rK (rP (rsC rS (rsC rS (rs1 (rT rS))))))).mono e29 h_p_order)
        have b19 := Same.trans b19 e29
        have h_p_rows := h29
        exact J19.nx p_rows _ _ _ _ _ b19 ⟨l_p_rows, vs_p_rows, rfl, rfl, h_p_rows⟩ (Same.refl _) hs hm
      · have h_p_script := (((rL zI)).mono e19 h_p_script)
        have h_p_sizes := (((rK zI)).mono e19 h_p_sizes)
        have h_p_tail := (((rK zI)).mono e19 h_p_tail)
        have h_p_nets := RLs.mono e19 h_p_nets
        have h_p_order := (((rK (rP (rsC rS (rsC rS (rs1 (rT rS))))))).mono e19 h_p_order)
        have h_p_rows := RLs.mono e19 h_p_rows
        have b19 := Same.refl G19
        exact J19.nx p_rows _ _ _ _ _ b19 ⟨l_p_rows, vs_p_rows, rfl, rfl, h_p_rows⟩ (Same.refl _) hs hm

theorem ok_law_gate_value {P : Program} {w : World} {K : PySem.W.Frag} {mg : Str → Option Value} {base : Heap} {cl : Nat → Addr} {fa : Addr} {fd : FuncData} (F : Fun K "_law_gate_value" "_law_gate_value" s_law_gate_value fa fd) (T : Txt K mg cl)  :
    FnOk P w K mg base (L2.CX P w) 1 fa fd ["kind", "bits"] (spP K cl (rsC rS (rs1 (rK zI))) zI (fun a => m_law_gate_value (a.1) (a.2))) := by
  refine F.okX sc_law_gate_value (fun vs H Q E h => ?_) (fun cdv A outer s H vs Q E hr h => ?_)
  · obtain ⟨G, a, _, hS, _⟩ := h
    exact (lnC ln1) _ _ _ _ hS
  · obtain ⟨G, ⟨p_kind, p_bits⟩, hg, hS, hm⟩ := h
    obtain ⟨v_p_kind, _, rfl, h_p_kind, v_p_bits, rfl, h_p_bits⟩ := hS
    cases (show v_p_kind = V.str p_kind from h_p_kind)
    refine ⟨_, (pss_cons (ps_set (i := 2) sc_law_gate_value.nd rfl (by first | exact Or.inl rfl | exact Or.inr rfl) (pe_callB (r := rSum K) (cr_sum rfl) (by rfl) T.n_sum b_sum (pa_cons (pv 1) pa_nil)))
     (pss_cons (ps_if (PW.pt (pw_or (pt_cmpR op_eq (pv 0) pe_str (nomark _)) (pw_or1 (pt_cmpR op_eq (pv 0) pe_str (nomark _))))) (pss_cons (ps_ret (pe_callTy call_int1 (by rfl) T.n_int b_int (pa_cons (pe_cmpR op_eq (pv 0) pe_str (nomark _)) pa_nil)))
     pss_nil) pss_nil)
     (pss_cons (ps_if (pt_cmpR op_eq (pv 0) pe_str (nomark _)) (pss_cons (ps_ret (pe_ix (r := rIxL K) ix_list (pv 1) (pe_op op_add pe_int (pe_ix (r := rIxL K) ix_list (pv 1) pe_int (fun _ _ => rfl))) (fun _ _ => rfl)))
     pss_nil) pss_nil)
     (pss_cons (ps_if (pt_cmpR op_eq (pv 0) pe_str (nomark _)) (pss_cons (ps_ret (pe_op op_sub pe_int (pv 2)))
     pss_nil) pss_nil)
     (pss_cons (ps_if (pt_cmpR op_eq (pv 0) pe_str (nomark _)) (pss_cons (ps_ret (pe_callTy call_int1 (by rfl) T.n_int b_int (pa_cons (pe_cmpR op_eq (pv 2) pe_int (nomark _)) pa_nil)))
     pss_nil) pss_nil)
     (pss_cons (ps_if (PW.pt (pw_or (pt_cmpR op_eq (pv 0) pe_str (nomark _)) (pw_or1 (pt_cmpR op_eq (pv 0) pe_str (nomark _))))) (pss_cons (ps_ret (pe_callTy call_int1 (by rfl) T.n_int b_int (pa_cons (pe_cmpR op_eq (pe_cmpR op_eq (pv 2) (pe_callB (r := Mw.rLen K) call_len (by rfl) T.n_len b_len (pa_cons (pv 1) pa_nil)) (nomark _)) (pe_cmpR op_eq (pv 0) pe_str (nomark _)) (nomark _)) pa_nil)))
     pss_nil) pss_nil)
     (pss_cons (ps_ret (pe_callTy call_int1 (by rfl) T.n_int b_int (pa_cons (pe_cmpR op_eq (pe_cmpR op_gt (pv 2) pe_int (nomark _)) (pe_cmpR op_eq (pv 0) pe_str (nomark _)) (nomark _)) pa_nil)))
     pss_nil))))))), ?_⟩
    have hs : Hs ⟨H, G, E, cl⟩ G [] H := Hs.start hg
    have hm := Wp.ofSp (G0 := G) hm
    try dsimp only at hm
    unfold m_law_gate_value at hm
    refine (show (_ : TS) _ ([some (.str p_kind), some v_p_bits, none] : L2.St) _ from ?_)
    refine w_asg (K := K) (tg_name (i := 2) (R := zI)) (e_sum (e_KL (e_var (K := K) (i := 1) (R := (rK zI)) (x := p_bits) rfl h_p_bits))) hs hm (fun p_ones vv1 G1 H1 e1 hs hv1 hm => ?_)
    obtain ⟨v_p_ones, rfl, h_p_ones⟩ := hv1
    cases (show v_p_ones = V.int p_ones from h_p_ones)
    have h_p_bits := (((rK zI)).mono e1 h_p_bits)
    refine (show (_ : TS) _ ([some (.str p_kind), some v_p_bits, some (.int p_ones)] : L2.St) _ from ?_)
    refine w_if (t_or (t_test (K := K) (e_eq srS (e_var (K := K) (i := 0) (R := rS) (x := p_kind) rfl rfl) e_str)) (t_test (K := K) (e_eq srS (e_var (K := K) (i := 0) (R := rS) (x := p_kind) rfl rfl) e_str))) hs hm (fun G2 H2 e2 hs hm => ?_) (fun G2 H2 e2 hs hm => ?_)
    · have h_p_bits := (((rK zI)).mono e2 h_p_bits)
      exact w_ret0 (K := K) (e_intB (e_eq srS (e_var (K := K) (i := 0) (R := rS) (x := p_kind) rfl rfl) e_str)) hs hm fun r v G2 H2 hs2 hr2 hq => hq v G2 H2 hs2.fin hr2
    · have h_p_bits := (((rK zI)).mono e2 h_p_bits)
      refine nx_of ?_
      try dsimp only
      refine (show (_ : TS) _ ([some (.str p_kind), some v_p_bits, some (.int p_ones)] : L2.St) _ from ?_)
      refine w_if (t_test (K := K) (e_eq srS (e_var (K := K) (i := 0) (R := rS) (x := p_kind) rfl rfl) e_str)) hs hm (fun G3 H3 e3 hs hm => ?_) (fun G3 H3 e3 hs hm => ?_)
      · have h_p_bits := (((rK zI)).mono e3 h_p_bits)
        exact w_ret0 (K := K) (e_ixL (e_KL (e_var (K := K) (i := 1) (R := (rK zI)) (x := p_bits) rfl h_p_bits)) (e_add e_int (e_ixL (e_KL (e_var (K := K) (i := 1) (R := (rK zI)) (x := p_bits) rfl h_p_bits)) e_int))) hs hm fun r v G2 H2 hs2 hr2 hq => hq v G2 H2 hs2.fin hr2
      · have h_p_bits := (((rK zI)).mono e3 h_p_bits)
        refine nx_of ?_
        try dsimp only
        refine (show (_ : TS) _ ([some (.str p_kind), some v_p_bits, some (.int p_ones)] : L2.St) _ from ?_)
        refine w_if (t_test (K := K) (e_eq srS (e_var (K := K) (i := 0) (R := rS) (x := p_kind) rfl rfl) e_str)) hs hm (fun G4 H4 e4 hs hm => ?_) (fun G4 H4 e4 hs hm => ?_)
        · have h_p_bits := (((rK zI)).mono e4 h_p_bits)
          exact w_ret0 (K := K) (e_sub e_int (e_var (K := K) (i := 2) (R := zI) (x := p_ones) rfl rfl)) hs hm fun r v G2 H2 hs2 hr2 hq => hq v G2 H2 hs2.fin hr2
        · have h_p_bits := (((rK zI)).mono e4 h_p_bits)
          refine nx_of ?_
          try dsimp only
          refine (show (_ : TS) _ ([some (.str p_kind), some v_p_bits, some (.int p_ones)] : L2.St) _ from ?_)
          refine w_if (t_test (K := K) (e_eq srS (e_var (K := K) (i := 0) (R := rS) (x := p_kind) rfl rfl) e_str)) hs hm (fun G5 H5 e5 hs hm => ?_) (fun G5 H5 e5 hs hm => ?_)
          · have h_p_bits := (((rK zI)).mono e5 h_p_bits)
            exact w_ret0 (K := K) (e_intB (e_eq srI (e_var (K := K) (i := 2) (R := zI) (x := p_ones) rfl rfl) e_int)) hs hm fun r v G2 H2 hs2 hr2 hq => hq v G2 H2 hs2.fin hr2
          · have h_p_bits := (((rK zI)).mono e5 h_p_bits)
            refine nx_of ?_
            try dsimp only
            refine (show (_ : TS) _ ([some (.str p_kind), some v_p_bits, some (.int p_ones)] : L2.St) _ from ?_)
            refine w_if (t_or (t_test (K := K) (e_eq srS (e_var (K := K) (i := 0) (R := rS) (x := p_kind) rfl rfl) e_str)) (t_test (K := K) (e_eq srS (e_var (K := K) (i := 0) (R := rS) (x := p_kind) rfl rfl) e_str))) hs hm (fun G6 H6 e6 hs hm => ?_) (fun G6 H6 e6 hs hm => ?_)
            · have h_p_bits := (((rK zI)).mono e6 h_p_bits)
              exact w_ret0 (K := K) (e_intB (e_eq srB (e_eq srI (e_var (K := K) (i := 2) (R := zI) (x := p_ones) rfl rfl) (e_len sq_K (e_var (K := K) (i := 1) (R := (rK zI)) (x := p_bits) rfl h_p_bits))) (e_eq srS (e_var (K := K) (i := 0) (R := rS) (x := p_kind) rfl rfl) e_str))) hs hm fun r v G2 H2 hs2 hr2 hq => hq v G2 H2 hs2.fin hr2
            · have h_p_bits := (((rK zI)).mono e6 h_p_bits)
              refine nx_of ?_
              try dsimp only
              refine (show (_ : TS) _ ([some (.str p_kind), some v_p_bits, some (.int p_ones)] : L2.St) _ from ?_)
              exact w_ret0 (K := K) (e_intB (e_eq srB (e_cmp (p := fun i j => decide (j < i)) (e_var (K := K) (i := 2) (R := zI) (x := p_ones) rfl rfl) e_int) (e_eq srS (e_var (K := K) (i := 0) (R := rS) (x := p_kind) rfl rfl) e_str))) hs hm fun r v G2 H2 hs2 hr2 hq => hq v G2 H2 hs2.fin hr2

theorem ok_law_ends {P : Program} {w : World} {K : PySem.W.Frag} {mg : Str → Option Value} {base : Heap} {cl : Nat → Addr} {fa : Addr} {fd : FuncData} (F : Fun K "_law_ends" "_law_ends" s_law_ends fa fd) (T : Txt K mg cl) (C_law_gate_value : Cal P w K mg base "_law_gate_value" 1 ["kind", "bits"] (spP K cl (rsC rS (rs1 (rK zI))) zI (fun a => m_law_gate_value (a.1) (a.2)))) :
    FnOk P w K mg base (L2.CX P w) 2 fa fd ["netlist", "bits"] (spP K cl (rsC (rP (rsC (rT rS) (rsC (rT rS) (rs1 (rT (rP (rsC rS (rsC rS (rs1 (rT rS)))))))))) (rs1 (rK zI))) (rK zI) (fun a => m_law_ends (a.1) (a.2))) := by
  refine F.okX sc_law_ends (fun vs H Q E h => ?_) (fun cdv A outer s H vs Q E hr h => ?_)
  · obtain ⟨G, a, _, hS, _⟩ := h
    exact (lnC ln1) _ _ _ _ hS
  · obtain ⟨G, ⟨p_netlist, p_bits⟩, hg, hS, hm⟩ := h
    obtain ⟨v_p_netlist, _, rfl, h_p_netlist, v_p_bits, rfl, h_p_bits⟩ := hS
    have tk : Takes (cxOf (L2.CX P w) P w K mg base N_law_ends "_law_ends" (defScope s_law_ends) fa cdv A outer s H E) (fun cls d _ H => E cls d H) := takes_of rfl rfl rfl rfl
    refine ⟨_, (pss_cons (ps_setLc (i := 3) (own := [("gate", 2)]) rfl sc_law_ends.nd rfl rfl (sw_true rfl rfl rfl (by decide +kernel)) (pi_tup (pe_ix (r := rIxT K) ix_tup (pv 0) pe_int (fun _ _ => rfl))) (blkOk_by (own := [("gate", 2)]) (N := N_law_ends) (sc := defScope s_law_ends) (by decide +kernel)) (fun _ _ _ _ _ => (pg_name (i := 2) sc_law_ends.nd rfl (by first | exact Or.inl rfl | exact Or.inr rfl))) (fun _ _ _ _ _ => (pts_one (pt_cmpR op_eq (pe_ix (r := rIxT K) ix_tup (pv 2) pe_int (fun _ _ => rfl)) pe_str (nomark _)))) (fun _ _ _ _ _ => (pv 2)))
     (pss_cons (ps_set (i := 4) sc_law_ends.nd rfl (by first | exact Or.inl rfl | exact Or.inr rfl) (pe_op op_cat (pe_callTy (r := rLi K) call_list_of (by rfl) T.n_list b_list (pa_cons (pe_ix (r := rIxT K) ix_tup (pv 0) pe_int (fun _ _ => rfl)) pa_nil)) (pe_lc (own := [("gate", 2)]) rfl sc_law_ends.nd (pi_list (pv 3)) (blkOk_by (own := [("gate", 2)]) (N := N_law_ends) (sc := defScope s_law_ends) (by decide +kernel)) (fun _ _ _ _ _ => (pg_name (i := 2) sc_law_ends.nd rfl (by first | exact Or.inl rfl | exact Or.inr rfl))) (fun _ _ _ _ _ => pts_nil) (fun _ _ _ _ _ => (pe_ix (r := rIxT K) ix_tup (pv 2) pe_int (fun _ _ => rfl))))))
     (pss_cons (ps_set (i := 5) sc_law_ends.nd rfl (by first | exact Or.inl rfl | exact Or.inr rfl) pe_dnewK)
     (pss_cons (ps_for (passes_of rfl) rfl (pi_range1 rfl T.n_range (pa_cons (pe_callB (r := Mw.rLen K) call_len (by rfl) T.n_len b_len (pa_cons (pv 4) pa_nil)) pa_nil)) (pg_name (i := 6) sc_law_ends.nd rfl (by first | exact Or.inl rfl | exact Or.inr rfl)) (pss_cons (ps_dput (hu_of hr) (pv 5) (pe_ix (r := rIxL K) ix_list (pv 4) (pv 6) (fun _ _ => rfl)) (pe_ix (r := rIxL K) ix_list (pv 1) (pv 6) (fun _ _ => rfl)) rfl)
     pss_nil))
     (pss_cons (ps_for (passes_of rfl) rfl (pi_range1 rfl T.n_range (pa_cons (pe_callB (r := Mw.rLen K) call_len (by rfl) T.n_len b_len (pa_cons (pe_ix (r := rIxT K) ix_tup (pv 0) pe_int (fun _ _ => rfl)) pa_nil)) pa_nil)) (pg_name (i := 7) sc_law_ends.nd rfl (by first | exact Or.inl rfl | exact Or.inr rfl)) (pss_cons (ps_setLc (i := 8) (own := [("gate", 2)]) rfl sc_law_ends.nd rfl rfl (sw_true rfl rfl rfl (by decide +kernel)) (pi_tup (pe_ix (r := rIxT K) ix_tup (pv 0) pe_int (fun _ _ => rfl))) (blkOk_by (own := [("gate", 2)]) (N := N_law_ends) (sc := defScope s_law_ends) (by decide +kernel)) (fun _ _ _ _ _ => (pg_name (i := 2) sc_law_ends.nd rfl (by first | exact Or.inl rfl | exact Or.inr rfl))) (fun _ _ _ _ _ => (pts_one (pt_cmp (pc_dnotin (hu_of hr) (pe_ix (r := rIxT K) ix_tup (pv 2) pe_int (fun _ _ => rfl)) (pv 5))))) (fun _ _ _ _ _ => (pv 2)))
     (pss_cons (ps_if (pt_cmpR op_eq (pe_callB (r := Mw.rLen K) call_len (by rfl) T.n_len b_len (pa_cons (pv 8) pa_nil)) pe_int (nomark _)) (pss_cons ps_break
     pss_nil) pss_nil)
     (pss_cons (ps_for (passes_of rfl) rfl (pi_list (pv 8)) (pg_name (i := 2) sc_law_ends.nd rfl (by first | exact Or.inl rfl | exact Or.inr rfl)) (pss_cons (ps_setLc (i := 9) (own := [("name", 10)]) rfl sc_law_ends.nd rfl rfl (sw_true rfl rfl rfl (by decide +kernel)) (pi_tup (pe_ix (r := rIxT K) ix_tup (pv 2) pe_int (fun _ _ => rfl))) (blkOk_by (own := [("name", 10)]) (N := N_law_ends) (sc := defScope s_law_ends) (by decide +kernel)) (fun _ _ _ _ _ => (pg_name (i := 10) sc_law_ends.nd rfl (by first | exact Or.inl rfl | exact Or.inr rfl))) (fun _ _ _ _ _ => (pts_one (pt_cmp (pc_din (hu_of hr) (pv 10) (pv 5))))) (fun _ _ _ _ _ => (pv 10)))
     (pss_cons (ps_if (pt_cmpR op_eq (pe_callB (r := Mw.rLen K) call_len (by rfl) T.n_len b_len (pa_cons (pv 9) pa_nil)) (pe_callB (r := Mw.rLen K) call_len (by rfl) T.n_len b_len (pa_cons (pe_ix (r := rIxT K) ix_tup (pv 2) pe_int (fun _ _ => rfl)) pa_nil)) (nomark _)) (pss_cons (ps_dput (hu_of hr) (pv 5) (pe_ix (r := rIxT K) ix_tup (pv 2) pe_int (fun _ _ => rfl)) (pe_call (E := E) C_law_gate_value.ok (hr.mono (by decide)) rfl C_law_gate_value.mgx C_law_gate_value.kp C_law_gate_value.bd .nil (passes_call tk (fun _ _ _ _ h => h)) (pa_cons (pe_ix (r := rIxT K) ix_tup (pv 2) pe_int (fun _ _ => rfl)) (pa_cons (pe_lc (own := [("name", 10)]) rfl sc_law_ends.nd (pi_tup (pe_ix (r := rIxT K) ix_tup (pv 2) pe_int (fun _ _ => rfl))) (blkOk_by (own := [("name", 10)]) (N := N_law_ends) (sc := defScope s_law_ends) (by decide +kernel)) (fun _ _ _ _ _ => (pg_name (i := 10) sc_law_ends.nd rfl (by first | exact Or.inl rfl | exact Or.inr rfl))) (fun _ _ _ _ _ => pts_nil) (fun _ _ _ _ _ => (pe_dget (hu_of hr) (pv 5) (pv 10) (fun _ _ => rfl)))) pa_nil))) rfl)
     pss_nil) pss_nil)
     pss_nil)))
     pss_nil))))
     (pss_cons (ps_ret (pe_op op_cat (pe_lc (own := [("name", 10)]) rfl sc_law_ends.nd (pi_tup (pe_ix (r := rIxT K) ix_tup (pv 0) pe_int (fun _ _ => rfl))) (blkOk_by (own := [("name", 10)]) (N := N_law_ends) (sc := defScope s_law_ends) (by decide +kernel)) (fun _ _ _ _ _ => (pg_name (i := 10) sc_law_ends.nd rfl (by first | exact Or.inl rfl | exact Or.inr rfl))) (fun _ _ _ _ _ => pts_nil) (fun _ _ _ _ _ => (pe_dget (hu_of hr) (pv 5) (pv 10) (fun _ _ => rfl)))) (pe_lc (own := [("gate", 2)]) rfl sc_law_ends.nd (pi_list (pv 3)) (blkOk_by (own := [("gate", 2)]) (N := N_law_ends) (sc := defScope s_law_ends) (by decide +kernel)) (fun _ _ _ _ _ => (pg_name (i := 2) sc_law_ends.nd rfl (by first | exact Or.inl rfl | exact Or.inr rfl))) (fun _ _ _ _ _ => pts_nil) (fun _ _ _ _ _ => (pe_dget (hu_of hr) (pv 5) (pe_ix (r := rIxT K) ix_tup (pe_ix (r := rIxT K) ix_tup (pv 2) pe_int (fun _ _ => rfl)) pe_int (fun _ _ => rfl)) (fun _ _ => rfl))))))
     pss_nil)))))), ?_⟩
    have hs : Hs ⟨H, G, E, cl⟩ G [] H := Hs.start hg
    have hm := Wp.ofSp (G0 := G) hm
    try dsimp only at hm
    unfold m_law_ends at hm
    refine (show (_ : TS) _ ([some v_p_netlist, some v_p_bits, none, none, none, none, none, none, none, none, none] : L2.St) _ from ?_)
    refine w_asg (K := K) (tg_name (i := 3) (R := (rK (rP (rsC rS (rsC rS (rs1 (rT rS)))))))) (EvN.evK (n_lc (S := (rP (rsC rS (rsC rS (rs1 (rT rS)))))) (i_tup (e_proj (k := 2) (pjS (pjS pj1)) (e_var (K := K) (i := 0) (R := (rP (rsC (rT rS) (rsC (rT rS) (rs1 (rT (rP (rsC rS (rsC rS (rs1 (rT rS))))))))))) (x := p_netlist) rfl h_p_netlist))) (fun _ h => nomatch h) (tg_name (i := 2) (R := (rP (rsC rS (rsC rS (rs1 (rT rS))))))) (by decide) (fun x1 vs1 G1 e1 hv1 => by
     obtain ⟨v1_p_gate, rfl, h1_p_gate⟩ := hv1
     exact ⟨(t_test (K := K) (e_eq srS (e_proj (k := 1) (pjS pj0) (e_var (K := K) (i := 2) (R := (rP (rsC rS (rsC rS (rs1 (rT rS)))))) (x := x1) rfl h1_p_gate)) e_str)), (e_var (K := K) (i := 2) (R := (rP (rsC rS (rsC rS (rs1 (rT rS)))))) (x := x1) rfl h1_p_gate)⟩))) hs hm (fun p_latches vv2 G2 H2 e2 hs hv2 hm => ?_)
    obtain ⟨v_p_latches, rfl, h_p_latches⟩ := hv2
    have h_p_netlist := (((rP (rsC (rT rS) (rsC (rT rS) (rs1 (rT (rP (rsC rS (rsC rS (rs1 (rT rS))))))))))).mono e2 h_p_netlist)
    have h_p_bits := (((rK zI)).mono e2 h_p_bits)
    refine (show (_ : TS) _ ([some v_p_netlist, some v_p_bits, none, some v_p_latches, none, none, none, none, none, none, none] : L2.St) _ from ?_)
    refine w_asg (K := K) (tg_name (i := 4) (R := (rK rS))) (EvN.evK (n_cat (EvN.evK (n_list sq_T (e_proj (k := 0) pj0 (e_var (K := K) (i := 0) (R := (rP (rsC (rT rS) (rsC (rT rS) (rs1 (rT (rP (rsC rS (rsC rS (rs1 (rT rS))))))))))) (x := p_netlist) rfl h_p_netlist)))) (EvN.evK (n_lc (S := rS) (i_list (e_KL (e_var (K := K) (i := 3) (R := (rK (rP (rsC rS (rsC rS (rs1 (rT rS))))))) (x := p_latches) rfl h_p_latches))) (fun _ h => nomatch h) (tg_name (i := 2) (R := (rP (rsC rS (rsC rS (rs1 (rT rS))))))) (by decide) (fun x3 vs3 G3 e3 hv3 => by
     obtain ⟨v3_p_gate, rfl, h3_p_gate⟩ := hv3
     exact ⟨t_yes, (e_proj (k := 0) pj0 (e_var (K := K) (i := 2) (R := (rP (rsC rS (rsC rS (rs1 (rT rS)))))) (x := x3) rfl h3_p_gate))⟩))))) hs hm (fun p_names vv4 G4 H4 e4 hs hv4 hm => ?_)
    obtain ⟨v_p_names, rfl, h_p_names⟩ := hv4
    have h_p_netlist := (((rP (rsC (rT rS) (rsC (rT rS) (rs1 (rT (rP (rsC rS (rsC rS (rs1 (rT rS))))))))))).mono e4 h_p_netlist)
    have h_p_bits := (((rK zI)).mono e4 h_p_bits)
    have h_p_latches := (((rK (rP (rsC rS (rsC rS (rs1 (rT rS))))))).mono e4 h_p_latches)
    refine (show (_ : TS) _ ([some v_p_netlist, some v_p_bits, none, some v_p_latches, some v_p_names, none, none, none, none, none, none] : L2.St) _ from ?_)
    refine w_asgD (K := K) (k := keS) (R := zI) (i := 5) d_new hs hm (fun p_values l_p_values vs_p_values G5 H5 e5 hs h5 hm => ?_)
    have h_p_netlist := (((rP (rsC (rT rS) (rsC (rT rS) (rs1 (rT (rP (rsC rS (rsC rS (rs1 (rT rS))))))))))).mono e5 h_p_netlist)
    have h_p_bits := (((rK zI)).mono e5 h_p_bits)
    have h_p_latches := (((rK (rP (rsC rS (rsC rS (rs1 (rT rS))))))).mono e5 h_p_latches)
    have h_p_names := (((rK rS)).mono e5 h_p_names)
    have h_p_values := h5
    refine (show (_ : TS) _ ([some v_p_netlist, some v_p_bits, none, some v_p_latches, some v_p_names, some (.ref l_p_values), none, none, none, none, none] : L2.St) _ from ?_)
    refine w_forM (K := K) (fun (p_values : (List (Str × Int))) (σ : L2.St) (G : Hp) (O : Own) => ∃ (l_p_values : Addr) (vs_p_values : List (Key × V)) (d_6 : Option V), σ = [some v_p_netlist, some v_p_bits, none, some v_p_latches, some v_p_names, some (.ref l_p_values), d_6, none, none, none, none] ∧ O = [(l_p_values, .dK vs_p_values)] ∧ RKs keS zI K G vs_p_values p_values) (i_rng1 (e_len sq_K (e_var (K := K) (i := 4) (R := (rK rS)) (x := p_names) rfl h_p_names))) (fun _ _ _ _ _ _ h => nomatch h) (tg_name (i := 6) (R := zI)) hs hm ⟨l_p_values, vs_p_values, none, rfl, rfl, h_p_values⟩ (fun p_k p_values σ_ G1_6 G6 O_ H6 vv6 D6 Qb6 e6 w_ e16 hs hv6 E6 hm => ?_) (fun p_values σ_ G1_6 G6 O_ H6 e6 w_ e16 hs hm => ?_)
    · obtain ⟨l_p_values, vs_p_values, d_6, rfl, rfl, h_p_values⟩ := w_
      have h_p_netlist := (((rP (rsC (rT rS) (rsC (rT rS) (rs1 (rT (rP (rsC rS (rsC rS (rs1 (rT rS))))))))))).mono e6 h_p_netlist)
      have h_p_bits := (((rK zI)).mono e6 h_p_bits)
      have h_p_latches := (((rK (rP (rsC rS (rsC rS (rs1 (rT rS))))))).mono e6 h_p_latches)
      have h_p_names := (((rK rS)).mono e6 h_p_names)
      have h_p_values := RKs.mono e16 h_p_values
      obtain ⟨v_p_k, rfl, h_p_k⟩ := hv6
      cases (show v_p_k = V.int p_k from h_p_k)
      have b6 := Same.refl G6
      refine (show (_ : TS) _ ([some v_p_netlist, some v_p_bits, none, some v_p_latches, some v_p_names, some (.ref l_p_values), some (.int p_k), none, none, none, none] : L2.St) _ from ?_)
      unfold m_law_ends_b22 at hm
      try dsimp only at hm
      refine w_dput (K := K) (k := keS) (R := zI) (i := 5) 0 (xs := p_values) rfl rfl h_p_values (e_ixL (e_KL (e_var (K := K) (i := 1) (R := (rK zI)) (x := p_bits) rfl h_p_bits)) (e_var (K := K) (i := 6) (R := zI) (x := p_k) rfl rfl)) (e_ixL (e_KL (e_var (K := K) (i := 4) (R := (rK rS)) (x := p_names) rfl h_p_names)) (e_var (K := K) (i := 6) (R := zI) (x := p_k) rfl rfl)) hs hm (fun p_values vs_p_values G7 H7 e7 hs h7 hm => ?_)
      have h_p_netlist := (((rP (rsC (rT rS) (rsC (rT rS) (rs1 (rT (rP (rsC rS (rsC rS (rs1 (rT rS))))))))))).mono e7 h_p_netlist)
      have h_p_bits := (((rK zI)).mono e7 h_p_bits)
      have h_p_latches := (((rK (rP (rsC rS (rsC rS (rs1 (rT rS))))))).mono e7 h_p_latches)
      have h_p_names := (((rK rS)).mono e7 h_p_names)
      have b6 := Same.trans b6 e7
      have h_p_values := h7
      exact E6.nx p_values _ _ _ _ _ b6 ⟨l_p_values, vs_p_values, some (.int p_k), rfl, rfl, h_p_values⟩ (Same.refl _) hs hm.out
    · obtain ⟨l_p_values, vs_p_values, d_6, rfl, rfl, h_p_values⟩ := w_
      have h_p_netlist := (((rP (rsC (rT rS) (rsC (rT rS) (rs1 (rT (rP (rsC rS (rsC rS (rs1 (rT rS))))))))))).mono e6 h_p_netlist)
      have h_p_bits := (((rK zI)).mono e6 h_p_bits)
      have h_p_latches := (((rK (rP (rsC rS (rsC rS (rs1 (rT rS))))))).mono e6 h_p_latches)
      have h_p_names := (((rK rS)).mono e6 h_p_names)
      have h_p_values := RKs.mono e16 h_p_values
      refine (show (_ : TS) _ ([some v_p_netlist, some v_p_bits, none, some v_p_latches, some v_p_names, some (.ref l_p_values), d_6, none, none, none, none] : L2.St) _ from ?_)
      try dsimp only at hm
      refine w_forB (K := K) (Rr := (rK zI)) (fun (p_values : (List (Str × Int))) (σ : L2.St) (G : Hp) (O : Own) => ∃ (l_p_values : Addr) (vs_p_values : List (Key × V)) (d_7 : Option V) (d_8 : Option V) (d_2 : Option V) (d_9 : Option V), σ = [some v_p_netlist, some v_p_bits, d_2, some v_p_latches, some v_p_names, some (.ref l_p_values), d_6, d_7, d_8, d_9, none] ∧ O = [(l_p_values, .dK vs_p_values)] ∧ RKs keS zI K G vs_p_values p_values) (i_rng1 (e_len sq_T (e_proj (k := 2) (pjS (pjS pj1)) (e_var (K := K) (i := 0) (R := (rP (rsC (rT rS) (rsC (rT rS) (rs1 (rT (rP (rsC rS (rsC rS (rs1 (rT rS))))))))))) (x := p_netlist) rfl h_p_netlist)))) (fun _ _ _ _ _ _ h => nomatch h) (tg_name (i := 7) (R := zI)) hs hm ⟨l_p_values, vs_p_values, none, none, none, none, rfl, rfl, h_p_values⟩ (fun _ _ _ _ _ _ _ h => h.elim) (fun p_turn p_values σ_ G1_8 G8 O_ H8 vv8 D8 Qb8 e8 w_ e18 hs hv8 E8 hm => ?_) (fun p_values σ_ G1_8 G8 O_ H8 e8 w_ e18 hs hm => ?_)
      · obtain ⟨l_p_values, vs_p_values, d_7, d_8, d_2, d_9, rfl, rfl, h_p_values⟩ := w_
        have h_p_netlist := (((rP (rsC (rT rS) (rsC (rT rS) (rs1 (rT (rP (rsC rS (rsC rS (rs1 (rT rS))))))))))).mono e8 h_p_netlist)
        have h_p_bits := (((rK zI)).mono e8 h_p_bits)
        have h_p_latches := (((rK (rP (rsC rS (rsC rS (rs1 (rT rS))))))).mono e8 h_p_latches)
        have h_p_names := (((rK rS)).mono e8 h_p_names)
        have h_p_values := RKs.mono e18 h_p_values
        obtain ⟨v_p_turn, rfl, h_p_turn⟩ := hv8
        cases (show v_p_turn = V.int p_turn from h_p_turn)
        have b8 := Same.refl G8
        refine (show (_ : TS) _ ([some v_p_netlist, some v_p_bits, d_2, some v_p_latches, some v_p_names, some (.ref l_p_values), d_6, some (.int p_turn), d_8, d_9, none] : L2.St) _ from ?_)
        unfold m_law_ends_b21 at hm
        try dsimp only at hm
        refine w_asg (K := K) (tg_name (i := 8) (R := (rK (rP (rsC rS (rsC rS (rs1 (rT rS)))))))) (EvN.evK (n_lc (S := (rP (rsC rS (rsC rS (rs1 (rT rS)))))) (i_tup (e_proj (k := 2) (pjS (pjS pj1)) (e_var (K := K) (i := 0) (R := (rP (rsC (rT rS) (rsC (rT rS) (rs1 (rT (rP (rsC rS (rsC rS (rs1 (rT rS))))))))))) (x := p_netlist) rfl h_p_netlist))) (fun _ h => nomatch h) (tg_name (i := 2) (R := (rP (rsC rS (rsC rS (rs1 (rT rS))))))) (by decide) (fun x9 vs9 G9 e9 hv9 => by
         obtain ⟨v9_p_gate, rfl, h9_p_gate⟩ := hv9
         exact ⟨(t_val (K := K) (e_dnin (K := K) (k := keS) (i := 5) (l := l_p_values) rfl (List.mem_of_getElem? (i := 0) rfl) (.inl rfl) (RKs.mono e9 h_p_values) (e_proj (k := 0) pj0 (e_var (K := K) (i := 2) (R := (rP (rsC rS (rsC rS (rs1 (rT rS)))))) (x := x9) rfl h9_p_gate)))), (e_var (K := K) (i := 2) (R := (rP (rsC rS (rsC rS (rs1 (rT rS)))))) (x := x9) rfl h9_p_gate)⟩))) hs hm (fun p_left vv10 G10 H10 e10 hs hv10 hm => ?_)
        obtain ⟨v_p_left, rfl, h_p_left⟩ := hv10
        have h_p_netlist := (((rP (rsC (rT rS) (rsC (rT rS) (rs1 (rT (rP (rsC rS (rsC rS (rs1 (rT rS))))))))))).mono e10 h_p_netlist)
        have h_p_bits := (((rK zI)).mono e10 h_p_bits)
        have h_p_latches := (((rK (rP (rsC rS (rsC rS (rs1 (rT rS))))))).mono e10 h_p_latches)
        have h_p_names := (((rK rS)).mono e10 h_p_names)
        have h_p_values := RKs.mono e10 h_p_values
        have b8 := Same.trans b8 e10
        refine (show (_ : TS) _ ([some v_p_netlist, some v_p_bits, d_2, some v_p_latches, some v_p_names, some (.ref l_p_values), d_6, some (.int p_turn), some v_p_left, d_9, none] : L2.St) _ from ?_)
        refine w_if (t_test (K := K) (e_eq srI (e_len sq_K (e_var (K := K) (i := 8) (R := (rK (rP (rsC rS (rsC rS (rs1 (rT rS))))))) (x := p_left) rfl h_p_left)) e_int)) hs hm (fun G11 H11 e11 hs hm => ?_) (fun G11 H11 e11 hs hm => ?_)
        · have h_p_netlist := (((rP (rsC (rT rS) (rsC (rT rS) (rs1 (rT (rP (rsC rS (rsC rS (rs1 (rT rS))))))))))).mono e11 h_p_netlist)
          have h_p_bits := (((rK zI)).mono e11 h_p_bits)
          have h_p_latches := (((rK (rP (rsC rS (rsC rS (rs1 (rT rS))))))).mono e11 h_p_latches)
          have h_p_names := (((rK rS)).mono e11 h_p_names)
          have h_p_values := RKs.mono e11 h_p_values
          have h_p_left := (((rK (rP (rsC rS (rsC rS (rs1 (rT rS))))))).mono e11 h_p_left)
          have b8 := Same.trans b8 e11
          exact E8.bk p_values _ _ _ _ _ b8 ⟨l_p_values, vs_p_values, some (.int p_turn), some v_p_left, d_2, d_9, rfl, rfl, h_p_values⟩ (Same.refl _) hs hm.out
        · have h_p_netlist := (((rP (rsC (rT rS) (rsC (rT rS) (rs1 (rT (rP (rsC rS (rsC rS (rs1 (rT rS))))))))))).mono e11 h_p_netlist)
          have h_p_bits := (((rK zI)).mono e11 h_p_bits)
          have h_p_latches := (((rK (rP (rsC rS (rsC rS (rs1 (rT rS))))))).mono e11 h_p_latches)
          have h_p_names := (((rK rS)).mono e11 h_p_names)
          have h_p_values := RKs.mono e11 h_p_values
          have h_p_left := (((rK (rP (rsC rS (rsC rS (rs1 (rT rS))))))).mono e11 h_p_left)
          have b8 := Same.trans b8 e11
          refine nx_of ?_
          try dsimp only
          refine (show (_ : TS) _ ([some v_p_netlist, some v_p_bits, d_2, some v_p_latches, some v_p_names, some (.ref l_p_values), d_6, some (.int p_turn), some v_p_left, d_9, none] : L2.St) _ from ?_)
          refine w_forM (K := K) (fun (p_values : (List (Str × Int))) (σ : L2.St) (G : Hp) (O : Own) => ∃ (l_p_values : Addr) (vs_p_values : List (Key × V)) (d_2 : Option V) (d_9 : Option V), σ = [some v_p_netlist, some v_p_bits, d_2, some v_p_latches, some v_p_names, some (.ref l_p_values), d_6, some (.int p_turn), some v_p_left, d_9, none] ∧ O = [(l_p_values, .dK vs_p_values)] ∧ RKs keS zI K G vs_p_values p_values) (i_list (e_KL (e_var (K := K) (i := 8) (R := (rK (rP (rsC rS (rsC rS (rs1 (rT rS))))))) (x := p_left) rfl h_p_left))) (fun _ _ _ _ _ _ h => nomatch h) (tg_name (i := 2) (R := (rP (rsC rS (rsC rS (rs1 (rT rS))))))) hs hm ⟨l_p_values, vs_p_values, d_2, d_9, rfl, rfl, h_p_values⟩ (fun p_gate p_values σ_ G1_12 G12 O_ H12 vv12 D12 Qb12 e12 w_ e112 hs hv12 E12 hm => ?_) (fun p_values σ_ G1_12 G12 O_ H12 e12 w_ e112 hs hm => ?_)
          · obtain ⟨l_p_values, vs_p_values, d_2, d_9, rfl, rfl, h_p_values⟩ := w_
            have h_p_netlist := (((rP (rsC (rT rS) (rsC (rT rS) (rs1 (rT (rP (rsC rS (rsC rS (rs1 (rT rS))))))))))).mono e12 h_p_netlist)
            have h_p_bits := (((rK zI)).mono e12 h_p_bits)
            have h_p_latches := (((rK (rP (rsC rS (rsC rS (rs1 (rT rS))))))).mono e12 h_p_latches)
            have h_p_names := (((rK rS)).mono e12 h_p_names)
            have h_p_left := (((rK (rP (rsC rS (rsC rS (rs1 (rT rS))))))).mono e12 h_p_left)
            have h_p_values := RKs.mono e112 h_p_values
            obtain ⟨v_p_gate, rfl, h_p_gate⟩ := hv12
            have b12 := Same.refl G12
            refine (show (_ : TS) _ ([some v_p_netlist, some v_p_bits, some v_p_gate, some v_p_latches, some v_p_names, some (.ref l_p_values), d_6, some (.int p_turn), some v_p_left, d_9, none] : L2.St) _ from ?_)
            unfold m_law_ends_b18 at hm
            try dsimp only at hm
            refine w_asg (K := K) (tg_name (i := 9) (R := (rK rS))) (EvN.evK (n_lc (S := rS) (i_tup (e_proj (k := 2) (pjS (pjS pj1)) (e_var (K := K) (i := 2) (R := (rP (rsC rS (rsC rS (rs1 (rT rS)))))) (x := p_gate) rfl h_p_gate))) (fun _ h => nomatch h) (tg_name (i := 10) (R := rS)) (by decide) (fun x13 vs13 G13 e13 hv13 => by
             obtain ⟨v13_p_name, rfl, h13_p_name⟩ := hv13
             exact ⟨(t_val (K := K) (e_din (K := K) (k := keS) (i := 5) (l := l_p_values) rfl (List.mem_of_getElem? (i := 0) rfl) (.inl rfl) (RKs.mono e13 h_p_values) (e_var (K := K) (i := 10) (R := rS) (x := x13) rfl h13_p_name))), (e_var (K := K) (i := 10) (R := rS) (x := x13) rfl h13_p_name)⟩))) hs hm (fun p_known vv14 G14 H14 e14 hs hv14 hm => ?_)
            obtain ⟨v_p_known, rfl, h_p_known⟩ := hv14
            have h_p_netlist := (((rP (rsC (rT rS) (rsC (rT rS) (rs1 (rT (rP (rsC rS (rsC rS (rs1 (rT rS))))))))))).mono e14 h_p_netlist)
            have h_p_bits := (((rK zI)).mono e14 h_p_bits)
            have h_p_latches := (((rK (rP (rsC rS (rsC rS (rs1 (rT rS))))))).mono e14 h_p_latches)
            have h_p_names := (((rK rS)).mono e14 h_p_names)
            have h_p_values := RKs.mono e14 h_p_values
            have h_p_left := (((rK (rP (rsC rS (rsC rS (rs1 (rT rS))))))).mono e14 h_p_left)
            have h_p_gate := (((rP (rsC rS (rsC rS (rs1 (rT rS)))))).mono e14 h_p_gate)
            have b12 := Same.trans b12 e14
            refine (show (_ : TS) _ ([some v_p_netlist, some v_p_bits, some v_p_gate, some v_p_latches, some v_p_names, some (.ref l_p_values), d_6, some (.int p_turn), some v_p_left, some v_p_known, none] : L2.St) _ from ?_)
            refine w_if (t_test (K := K) (e_eq srI (e_len sq_K (e_var (K := K) (i := 9) (R := (rK rS)) (x := p_known) rfl h_p_known)) (e_len sq_T (e_proj (k := 2) (pjS (pjS pj1)) (e_var (K := K) (i := 2) (R := (rP (rsC rS (rsC rS (rs1 (rT rS)))))) (x := p_gate) rfl h_p_gate))))) hs hm (fun G15 H15 e15 hs hm => ?_) (fun G15 H15 e15 hs hm => ?_)
            · have h_p_netlist := (((rP (rsC (rT rS) (rsC (rT rS) (rs1 (rT (rP (rsC rS (rsC rS (rs1 (rT rS))))))))))).mono e15 h_p_netlist)
              have h_p_bits := (((rK zI)).mono e15 h_p_bits)
              have h_p_latches := (((rK (rP (rsC rS (rsC rS (rs1 (rT rS))))))).mono e15 h_p_latches)
              have h_p_names := (((rK rS)).mono e15 h_p_names)
              have h_p_values := RKs.mono e15 h_p_values
              have h_p_left := (((rK (rP (rsC rS (rsC rS (rs1 (rT rS))))))).mono e15 h_p_left)
              have h_p_gate := (((rP (rsC rS (rsC rS (rs1 (rT rS)))))).mono e15 h_p_gate)
              have h_p_known := (((rK rS)).mono e15 h_p_known)
              have b12 := Same.trans b12 e15
              refine w_dput (K := K) (k := keS) (R := zI) (i := 5) 0 (xs := p_values) rfl rfl h_p_values (e_call (fm := ⟨H, G, E, cl⟩) (a_cons (e_proj (k := 1) (pjS pj0) (e_var (K := K) (i := 2) (R := (rP (rsC rS (rsC rS (rs1 (rT rS)))))) (x := p_gate) rfl h_p_gate)) (a_one (EvN.evK (n_lc (S := zI) (i_tup (e_proj (k := 2) (pjS (pjS pj1)) (e_var (K := K) (i := 2) (R := (rP (rsC rS (rsC rS (rs1 (rT rS)))))) (x := p_gate) rfl h_p_gate))) (fun _ h => nomatch h) (tg_name (i := 10) (R := rS)) (by decide) (fun x16 vs16 G16 e16 hv16 => by
               obtain ⟨v16_p_name, rfl, h16_p_name⟩ := hv16
               exact ⟨t_yes, (e_dget (K := K) (k := keS) (i := 5) (l := l_p_values) rfl (List.mem_of_getElem? (i := 0) rfl) (.inl rfl) (RKs.mono e16 h_p_values) (e_var (K := K) (i := 10) (R := rS) (x := x16) rfl h16_p_name))⟩)))))) (e_proj (k := 0) pj0 (e_var (K := K) (i := 2) (R := (rP (rsC rS (rsC rS (rs1 (rT rS)))))) (x := p_gate) rfl h_p_gate)) hs hm (fun p_values vs_p_values G17 H17 e17 hs h17 hm => ?_)
              have h_p_netlist := (((rP (rsC (rT rS) (rsC (rT rS) (rs1 (rT (rP (rsC rS (rsC rS (rs1 (rT rS))))))))))).mono e17 h_p_netlist)
              have h_p_bits := (((rK zI)).mono e17 h_p_bits)
              have h_p_latches := (((rK (rP (rsC rS (rsC rS (rs1 (rT rS))))))).mono e17 h_p_latches)
              have h_p_names := (((rK rS)).mono e17 h_p_names)
              have h_p_left := (((rK (rP (rsC rS (rsC rS (rs1 (rT rS))))))).mono e17 h_p_left)
              have h_p_gate := (((rP (rsC rS (rsC rS (rs1 (rT rS)))))).mono e17 h_p_gate)
              have h_p_known := (((rK rS)).mono e17 h_p_known)
              have b12 := Same.trans b12 e17
              have h_p_values := h17
              refine nx_of ?_
              try dsimp only
              refine (show (_ : TS) _ ([some v_p_netlist, some v_p_bits, some v_p_gate, some v_p_latches, some v_p_names, some (.ref l_p_values), d_6, some (.int p_turn), some v_p_left, some v_p_known, none] : L2.St) _ from ?_)
              exact E12.nx p_values _ _ _ _ _ b12 ⟨l_p_values, vs_p_values, some v_p_gate, some v_p_known, rfl, rfl, h_p_values⟩ (Same.refl _) hs hm.out
            · have h_p_netlist := (((rP (rsC (rT rS) (rsC (rT rS) (rs1 (rT (rP (rsC rS (rsC rS (rs1 (rT rS))))))))))).mono e15 h_p_netlist)
              have h_p_bits := (((rK zI)).mono e15 h_p_bits)
              have h_p_latches := (((rK (rP (rsC rS (rsC rS (rs1 (rT rS))))))).mono e15 h_p_latches)
              have h_p_names := (((rK rS)).mono e15 h_p_names)
              have h_p_values := RKs.mono e15 h_p_values
              have h_p_left := (((rK (rP (rsC rS (rsC rS (rs1 (rT rS))))))).mono e15 h_p_left)
              have h_p_gate := (((rP (rsC rS (rsC rS (rs1 (rT rS)))))).mono e15 h_p_gate)
              have h_p_known := (((rK rS)).mono e15 h_p_known)
              have b12 := Same.trans b12 e15
              refine nx_of ?_
              try dsimp only
              refine (show (_ : TS) _ ([some v_p_netlist, some v_p_bits, some v_p_gate, some v_p_latches, some v_p_names, some (.ref l_p_values), d_6, some (.int p_turn), some v_p_left, some v_p_known, none] : L2.St) _ from ?_)
              exact E12.nx p_values _ _ _ _ _ b12 ⟨l_p_values, vs_p_values, some v_p_gate, some v_p_known, rfl, rfl, h_p_values⟩ (Same.refl _) hs hm.out
          · obtain ⟨l_p_values, vs_p_values, d_2, d_9, rfl, rfl, h_p_values⟩ := w_
            have h_p_netlist := (((rP (rsC (rT rS) (rsC (rT rS) (rs1 (rT (rP (rsC rS (rsC rS (rs1 (rT rS))))))))))).mono e12 h_p_netlist)
            have h_p_bits := (((rK zI)).mono e12 h_p_bits)
            have h_p_latches := (((rK (rP (rsC rS (rsC rS (rs1 (rT rS))))))).mono e12 h_p_latches)
            have h_p_names := (((rK rS)).mono e12 h_p_names)
            have h_p_left := (((rK (rP (rsC rS (rsC rS (rs1 (rT rS))))))).mono e12 h_p_left)
            have h_p_values := RKs.mono e112 h_p_values
            have b8 := Same.trans b8 e12
            refine (show (_ : TS) _ ([some v_p_netlist, some v_p_bits, d_2, some v_p_latches, some v_p_names, some (.ref l_p_values), d_6, some (.int p_turn), some v_p_left, d_9, none] : L2.St) _ from ?_)
            try dsimp only at hm
            exact E8.nx p_values _ _ _ _ _ b8 ⟨l_p_values, vs_p_values, some (.int p_turn), some v_p_left, d_2, d_9, rfl, rfl, h_p_values⟩ (Same.refl _) hs hm.out
      · obtain ⟨l_p_values, vs_p_values, d_7, d_8, d_2, d_9, rfl, rfl, h_p_values⟩ := w_
        have h_p_netlist := (((rP (rsC (rT rS) (rsC (rT rS) (rs1 (rT (rP (rsC rS (rsC rS (rs1 (rT rS))))))))))).mono e8 h_p_netlist)
        have h_p_bits := (((rK zI)).mono e8 h_p_bits)
        have h_p_latches := (((rK (rP (rsC rS (rsC rS (rs1 (rT rS))))))).mono e8 h_p_latches)
        have h_p_names := (((rK rS)).mono e8 h_p_names)
        have h_p_values := RKs.mono e18 h_p_values
        refine (show (_ : TS) _ ([some v_p_netlist, some v_p_bits, d_2, some v_p_latches, some v_p_names, some (.ref l_p_values), d_6, d_7, d_8, d_9, none] : L2.St) _ from ?_)
        try dsimp only at hm
        exact w_ret0 (K := K) (EvN.evK (n_cat (EvN.evK (n_lc (S := zI) (i_tup (e_proj (k := 1) (pjS pj0) (e_var (K := K) (i := 0) (R := (rP (rsC (rT rS) (rsC (rT rS) (rs1 (rT (rP (rsC rS (rsC rS (rs1 (rT rS))))))))))) (x := p_netlist) rfl h_p_netlist))) (fun _ h => nomatch h) (tg_name (i := 10) (R := rS)) (by decide) (fun x19 vs19 G19 e19 hv19 => by
         obtain ⟨v19_p_name, rfl, h19_p_name⟩ := hv19
         exact ⟨t_yes, (e_dget (K := K) (k := keS) (i := 5) (l := l_p_values) rfl (List.mem_of_getElem? (i := 0) rfl) (.inl rfl) (RKs.mono e19 h_p_values) (e_var (K := K) (i := 10) (R := rS) (x := x19) rfl h19_p_name))⟩))) (EvN.evK (n_lc (S := zI) (i_list (e_KL (e_var (K := K) (i := 3) (R := (rK (rP (rsC rS (rsC rS (rs1 (rT rS))))))) (x := p_latches) rfl h_p_latches))) (fun _ h => nomatch h) (tg_name (i := 2) (R := (rP (rsC rS (rsC rS (rs1 (rT rS))))))) (by decide) (fun x20 vs20 G20 e20 hv20 => by
         obtain ⟨v20_p_gate, rfl, h20_p_gate⟩ := hv20
         exact ⟨t_yes, (e_dget (K := K) (k := keS) (i := 5) (l := l_p_values) rfl (List.mem_of_getElem? (i := 0) rfl) (.inl rfl) (RKs.mono e20 h_p_values) (e_ixT (e_proj (k := 2) (pjS (pjS pj1)) (e_var (K := K) (i := 2) (R := (rP (rsC rS (rsC rS (rs1 (rT rS)))))) (x := x20) rfl h20_p_gate)) e_int))⟩))))) hs hm fun r v G2 H2 hs2 hr2 hq => hq v G2 H2 hs2.fin hr2

theorem ok_law_net_table {P : Program} {w : World} {K : PySem.W.Frag} {mg : Str → Option Value} {base : Heap} {cl : Nat → Addr} {fa : Addr} {fd : FuncData} (F : Fun K "_law_net_table" "_law_net_table" s_law_net_table fa fd) (T : Txt K mg cl) (C_law_ends : Cal P w K mg base "_law_ends" 2 ["netlist", "bits"] (spP K cl (rsC (rP (rsC (rT rS) (rsC (rT rS) (rs1 (rT (rP (rsC rS (rsC rS (rs1 (rT rS)))))))))) (rs1 (rK zI))) (rK zI) (fun a => m_law_ends (a.1) (a.2)))) (C_law_bits : Cal P w K mg base "_law_bits" 1 ["number", "count"] (spPF K cl (rsC zI (rs1 zI)) (fun H => (rF H zI)) (fun a => m_law_bits (a.1) (a.2)))) :
    FnOk P w K mg base (L2.CX P w) 3 fa fd ["netlist"] (spP K cl (rs1 (rP (rsC (rT rS) (rsC (rT rS) (rs1 (rT (rP (rsC rS (rsC rS (rs1 (rT rS))))))))))) (rP (rsC zI (rsC zI (rs1 (rT (rT (rP (rsC zI (rs1 zI))))))))) (fun a => m_law_net_table a)) := by
  refine F.okX sc_law_net_table (fun vs H Q E h => ?_) (fun cdv A outer s H vs Q E hr h => ?_)
  · obtain ⟨G, a, _, hS, _⟩ := h
    exact ln1 _ _ _ _ hS
  · obtain ⟨G, p_netlist, hg, hS, hm⟩ := h
    obtain ⟨v_p_netlist, rfl, h_p_netlist⟩ := hS
    have tk : Takes (cxOf (L2.CX P w) P w K mg base N_law_net_table "_law_net_table" (defScope s_law_net_table) fa cdv A outer s H E) (fun cls d _ H => E cls d H) := takes_of rfl rfl rfl rfl
    refine ⟨_, (pss_cons (ps_set (i := 1) sc_law_net_table.nd rfl (by first | exact Or.inl rfl | exact Or.inr rfl) (pe_callB (r := Mw.rLen K) call_len (by rfl) T.n_len b_len (pa_cons (pe_ix (r := rIxT K) ix_tup (pv 0) pe_int (fun _ _ => rfl)) pa_nil)))
     (pss_cons (ps_set (i := 2) sc_law_net_table.nd rfl (by first | exact Or.inl rfl | exact Or.inr rfl) (pe_callB (r := Mw.rLen K) call_len (by rfl) T.n_len b_len (pa_cons (pe_lc (own := [("gate", 10)]) rfl sc_law_net_table.nd (pi_tup (pe_ix (r := rIxT K) ix_tup (pv 0) pe_int (fun _ _ => rfl))) (blkOk_by (own := [("gate", 10)]) (N := N_law_net_table) (sc := defScope s_law_net_table) (by decide +kernel)) (fun _ _ _ _ _ => (pg_name (i := 10) sc_law_net_table.nd rfl (by first | exact Or.inl rfl | exact Or.inr rfl))) (fun _ _ _ _ _ => (pts_one (pt_cmpR op_eq (pe_ix (r := rIxT K) ix_tup (pv 10) pe_int (fun _ _ => rfl)) pe_str (nomark _)))) (fun _ _ _ _ _ => pe_int)) pa_nil)))
     (pss_cons (ps_set (i := 3) sc_law_net_table.nd rfl (by first | exact Or.inl rfl | exact Or.inr rfl) (pe_callB (r := Mw.rLen K) call_len (by rfl) T.n_len b_len (pa_cons (pe_ix (r := rIxT K) ix_tup (pv 0) pe_int (fun _ _ => rfl)) pa_nil)))
     (pss_cons (ps_set (i := 4) sc_law_net_table.nd rfl (by first | exact Or.inl rfl | exact Or.inr rfl) (pe_lst pa_nil))
     (pss_cons (ps_for (passes_of rfl) rfl (pi_range1 rfl T.n_range (pa_cons (pe_op op_shl pe_int (pv 2)) pa_nil)) (pg_name (i := 5) sc_law_net_table.nd rfl (by first | exact Or.inl rfl | exact Or.inr rfl)) (pss_cons (ps_set (i := 6) sc_law_net_table.nd rfl (by first | exact Or.inl rfl | exact Or.inr rfl) (pe_lst pa_nil))
     (pss_cons (ps_for (passes_of rfl) rfl (pi_range1 rfl T.n_range (pa_cons (pe_op op_shl pe_int (pv 1)) pa_nil)) (pg_name (i := 7) sc_law_net_table.nd rfl (by first | exact Or.inl rfl | exact Or.inr rfl)) (pss_cons (ps_set (i := 8) sc_law_net_table.nd rfl (by first | exact Or.inl rfl | exact Or.inr rfl) (pe_call (E := E) C_law_ends.ok (hr.mono (by decide)) rfl C_law_ends.mgx C_law_ends.kp C_law_ends.bd .nil (passes_call tk (fun _ _ _ _ h => h)) (pa_cons (pv 0) (pa_cons (pe_call (E := E) C_law_bits.ok (hr.mono (by decide)) rfl C_law_bits.mgx C_law_bits.kp C_law_bits.bd .nil (passes_call tk (fun _ _ _ _ h => h)) (pa_cons (pe_op op_add (pv 7) (pe_op op_mul (pv 5) (pe_op op_shl pe_int (pv 1)))) (pa_cons (pe_op op_add (pv 1) (pv 2)) pa_nil))) pa_nil))))
     (pss_cons (ps_set (i := 9) sc_law_net_table.nd rfl (by first | exact Or.inl rfl | exact Or.inr rfl) (pe_callB (r := rSum K) (cr_sum rfl) (by rfl) T.n_sum b_sum (pa_cons (pe_lc (own := [("k", 11)]) rfl sc_law_net_table.nd (pi_range1 rfl T.n_range (pa_cons (pv 3) pa_nil)) (blkOk_by (own := [("k", 11)]) (N := N_law_net_table) (sc := defScope s_law_net_table) (by decide +kernel)) (fun _ _ _ _ _ => (pg_name (i := 11) sc_law_net_table.nd rfl (by first | exact Or.inl rfl | exact Or.inr rfl))) (fun _ _ _ _ _ => pts_nil) (fun _ _ _ _ _ => (pe_op op_mul (pe_ix (r := rIxL K) ix_list (pv 8) (pv 11) (fun _ _ => rfl)) (pe_op op_shl pe_int (pv 11))))) pa_nil)))
     (pss_cons (ps_expr (pe_bm PySem.F.plainAttrs_list PySem.F.slot_list_append PySem.F.type_list_append mt_append (pv 6) (pa_cons (pe_tup (pa_cons (pe_callB (r := rSum K) (cr_sum rfl) (by rfl) T.n_sum b_sum (pa_cons (pe_lc (own := [("k", 11)]) rfl sc_law_net_table.nd (pi_range1 rfl T.n_range (pa_cons (pv 2) pa_nil)) (blkOk_by (own := [("k", 11)]) (N := N_law_net_table) (sc := defScope s_law_net_table) (by decide +kernel)) (fun _ _ _ _ _ => (pg_name (i := 11) sc_law_net_table.nd rfl (by first | exact Or.inl rfl | exact Or.inr rfl))) (fun _ _ _ _ _ => pts_nil) (fun _ _ _ _ _ => (pe_op op_mul (pe_ix (r := rIxL K) ix_list (pv 8) (pe_op op_add (pv 3) (pv 11)) (fun _ _ => rfl)) (pe_op op_shl pe_int (pv 11))))) pa_nil)) (pa_cons (pv 9) pa_nil))) pa_nil)))
     pss_nil))))
     (pss_cons (ps_expr (pe_bm PySem.F.plainAttrs_list PySem.F.slot_list_append PySem.F.type_list_append mt_append (pv 4) (pa_cons (pe_callTy (r := rTu K) call_tuple_of (by rfl) T.n_tuple b_tuple (pa_cons (pv 6) pa_nil)) pa_nil)))
     pss_nil))))
     (pss_cons (ps_ret (pe_tup (pa_cons (pv 1) (pa_cons (pv 3) (pa_cons (pe_callTy (r := rTu K) call_tuple_of (by rfl) T.n_tuple b_tuple (pa_cons (pv 4) pa_nil)) pa_nil)))))
     pss_nil)))))), ?_⟩
    have hs : Hs ⟨H, G, E, cl⟩ G [] H := Hs.start hg
    have hm := Wp.ofSp (G0 := G) hm
    try dsimp only at hm
    unfold m_law_net_table at hm
    refine (show (_ : TS) _ ([some v_p_netlist, none, none, none, none, none, none, none, none, none, none, none] : L2.St) _ from ?_)
    refine w_asg (K := K) (tg_name (i := 1) (R := zI)) (e_len sq_T (e_proj (k := 0) pj0 (e_var (K := K) (i := 0) (R := (rP (rsC (rT rS) (rsC (rT rS) (rs1 (rT (rP (rsC rS (rsC rS (rs1 (rT rS))))))))))) (x := p_netlist) rfl h_p_netlist))) hs hm (fun p_inputs vv1 G1 H1 e1 hs hv1 hm => ?_)
    obtain ⟨v_p_inputs, rfl, h_p_inputs⟩ := hv1
    cases (show v_p_inputs = V.int p_inputs from h_p_inputs)
    have h_p_netlist := (((rP (rsC (rT rS) (rsC (rT rS) (rs1 (rT (rP (rsC rS (rsC rS (rs1 (rT rS))))))))))).mono e1 h_p_netlist)
    refine (show (_ : TS) _ ([some v_p_netlist, some (.int p_inputs), none, none, none, none, none, none, none, none, none, none] : L2.St) _ from ?_)
    refine w_asg (K := K) (tg_name (i := 2) (R := zI)) (e_len sq_K (EvN.evK (n_lc (S := zI) (i_tup (e_proj (k := 2) (pjS (pjS pj1)) (e_var (K := K) (i := 0) (R := (rP (rsC (rT rS) (rsC (rT rS) (rs1 (rT (rP (rsC rS (rsC rS (rs1 (rT rS))))))))))) (x := p_netlist) rfl h_p_netlist))) (fun _ h => nomatch h) (tg_name (i := 10) (R := (rP (rsC rS (rsC rS (rs1 (rT rS))))))) (by decide) (fun x2 vs2 G2 e2 hv2 => by
     obtain ⟨v2_p_gate, rfl, h2_p_gate⟩ := hv2
     exact ⟨(t_test (K := K) (e_eq srS (e_proj (k := 1) (pjS pj0) (e_var (K := K) (i := 10) (R := (rP (rsC rS (rsC rS (rs1 (rT rS)))))) (x := x2) rfl h2_p_gate)) e_str)), e_int⟩)))) hs hm (fun p_latches vv3 G3 H3 e3 hs hv3 hm => ?_)
    obtain ⟨v_p_latches, rfl, h_p_latches⟩ := hv3
    cases (show v_p_latches = V.int p_latches from h_p_latches)
    have h_p_netlist := (((rP (rsC (rT rS) (rsC (rT rS) (rs1 (rT (rP (rsC rS (rsC rS (rs1 (rT rS))))))))))).mono e3 h_p_netlist)
    refine (show (_ : TS) _ ([some v_p_netlist, some (.int p_inputs), some (.int p_latches), none, none, none, none, none, none, none, none, none] : L2.St) _ from ?_)
    refine w_asg (K := K) (tg_name (i := 3) (R := zI)) (e_len sq_T (e_proj (k := 1) (pjS pj0) (e_var (K := K) (i := 0) (R := (rP (rsC (rT rS) (rsC (rT rS) (rs1 (rT (rP (rsC rS (rsC rS (rs1 (rT rS))))))))))) (x := p_netlist) rfl h_p_netlist))) hs hm (fun p_outputs vv4 G4 H4 e4 hs hv4 hm => ?_)
    obtain ⟨v_p_outputs, rfl, h_p_outputs⟩ := hv4
    cases (show v_p_outputs = V.int p_outputs from h_p_outputs)
    have h_p_netlist := (((rP (rsC (rT rS) (rsC (rT rS) (rs1 (rT (rP (rsC rS (rsC rS (rs1 (rT rS))))))))))).mono e4 h_p_netlist)
    refine (show (_ : TS) _ ([some v_p_netlist, some (.int p_inputs), some (.int p_latches), some (.int p_outputs), none, none, none, none, none, none, none, none] : L2.St) _ from ?_)
    refine w_asgN (K := K) (R := (rT (rP (rsC zI (rs1 zI))))) (i := 4) (e_lst l_nil (by decide)) hs hm (fun p_rows l_p_rows vs_p_rows G5 H5 e5 hs h5 hm => ?_)
    have h_p_netlist := (((rP (rsC (rT rS) (rsC (rT rS) (rs1 (rT (rP (rsC rS (rsC rS (rs1 (rT rS))))))))))).mono e5 h_p_netlist)
    have h_p_rows := h5
    refine (show (_ : TS) _ ([some v_p_netlist, some (.int p_inputs), some (.int p_latches), some (.int p_outputs), some (.ref l_p_rows), none, none, none, none, none, none, none] : L2.St) _ from ?_)
    refine w_forM (K := K) (fun (p_rows : (List (List (Int × Int)))) (σ : L2.St) (G : Hp) (O : Own) => ∃ (l_p_rows : Addr) (vs_p_rows : List V) (d_5 : Option V) (d_6 : Option V) (d_7 : Option V) (d_8 : Option V) (d_9 : Option V), σ = [some v_p_netlist, some (.int p_inputs), some (.int p_latches), some (.int p_outputs), some (.ref l_p_rows), d_5, d_6, d_7, d_8, d_9, none, none] ∧ O = [(l_p_rows, .lst vs_p_rows)] ∧ RLs (rT (rP (rsC zI (rs1 zI)))) K G vs_p_rows p_rows) (i_rng1 (e_shl e_int (e_var (K := K) (i := 2) (R := zI) (x := p_latches) rfl rfl))) (fun _ _ _ _ _ _ h => nomatch h) (tg_name (i := 5) (R := zI)) hs hm ⟨l_p_rows, vs_p_rows, none, none, none, none, none, rfl, rfl, h_p_rows⟩ (fun p_state p_rows σ_ G1_6 G6 O_ H6 vv6 D6 Qb6 e6 w_ e16 hs hv6 E6 hm => ?_) (fun p_rows σ_ G1_6 G6 O_ H6 e6 w_ e16 hs hm => ?_)
    · obtain ⟨l_p_rows, vs_p_rows, d_5, d_6, d_7, d_8, d_9, rfl, rfl, h_p_rows⟩ := w_
      have h_p_netlist := (((rP (rsC (rT rS) (rsC (rT rS) (rs1 (rT (rP (rsC rS (rsC rS (rs1 (rT rS))))))))))).mono e6 h_p_netlist)
      have h_p_rows := RLs.mono e16 h_p_rows
      obtain ⟨v_p_state, rfl, h_p_state⟩ := hv6
      cases (show v_p_state = V.int p_state from h_p_state)
      have b6 := Same.refl G6
      refine (show (_ : TS) _ ([some v_p_netlist, some (.int p_inputs), some (.int p_latches), some (.int p_outputs), some (.ref l_p_rows), some (.int p_state), d_6, d_7, d_8, d_9, none, none] : L2.St) _ from ?_)
      unfold m_law_net_table_b18 at hm
      try dsimp only at hm
      refine w_asgN (K := K) (R := (rP (rsC zI (rs1 zI)))) (i := 6) (e_lst l_nil (by decide)) hs hm (fun p_row l_p_row vs_p_row G7 H7 e7 hs h7 hm => ?_)
      have h_p_netlist := (((rP (rsC (rT rS) (rsC (rT rS) (rs1 (rT (rP (rsC rS (rsC rS (rs1 (rT rS))))))))))).mono e7 h_p_netlist)
      have h_p_rows := RLs.mono e7 h_p_rows
      have b6 := Same.trans b6 e7
      have h_p_row := h7
      refine (show (_ : TS) _ ([some v_p_netlist, some (.int p_inputs), some (.int p_latches), some (.int p_outputs), some (.ref l_p_rows), some (.int p_state), some (.ref l_p_row), d_7, d_8, d_9, none, none] : L2.St) _ from ?_)
      refine w_forM (K := K) (fun (p_row : (List (Int × Int))) (σ : L2.St) (G : Hp) (O : Own) => ∃ (l_p_row : Addr) (vs_p_row : List V) (d_7 : Option V) (d_8 : Option V) (d_9 : Option V), σ = [some v_p_netlist, some (.int p_inputs), some (.int p_latches), some (.int p_outputs), some (.ref l_p_rows), some (.int p_state), some (.ref l_p_row), d_7, d_8, d_9, none, none] ∧ O = [(l_p_row, .lst vs_p_row), (l_p_rows, .lst vs_p_rows)] ∧ RLs (rP (rsC zI (rs1 zI))) K G vs_p_row p_row) (i_rng1 (e_shl e_int (e_var (K := K) (i := 1) (R := zI) (x := p_inputs) rfl rfl))) (fun _ _ _ _ _ _ h => nomatch h) (tg_name (i := 7) (R := zI)) hs hm ⟨l_p_row, vs_p_row, d_7, d_8, d_9, rfl, rfl, h_p_row⟩ (fun p_letter p_row σ_ G1_8 G8 O_ H8 vv8 D8 Qb8 e8 w_ e18 hs hv8 E8 hm => ?_) (fun p_row σ_ G1_8 G8 O_ H8 e8 w_ e18 hs hm => ?_)
      · obtain ⟨l_p_row, vs_p_row, d_7, d_8, d_9, rfl, rfl, h_p_row⟩ := w_
        have h_p_netlist := (((rP (rsC (rT rS) (rsC (rT rS) (rs1 (rT (rP (rsC rS (rsC rS (rs1 (rT rS))))))))))).mono e8 h_p_netlist)
        have h_p_rows := RLs.mono e8 h_p_rows
        have h_p_row := RLs.mono e18 h_p_row
        obtain ⟨v_p_letter, rfl, h_p_letter⟩ := hv8
        cases (show v_p_letter = V.int p_letter from h_p_letter)
        have b8 := Same.refl G8
        refine (show (_ : TS) _ ([some v_p_netlist, some (.int p_inputs), some (.int p_latches), some (.int p_outputs), some (.ref l_p_rows), some (.int p_state), some (.ref l_p_row), some (.int p_letter), d_8, d_9, none, none] : L2.St) _ from ?_)
        unfold m_law_net_table_b16 at hm
        try dsimp only at hm
        refine w_asg (K := K) (tg_name (i := 8) (R := (rK zI))) (e_call (fm := ⟨H, G, E, cl⟩) (a_cons (e_var (K := K) (i := 0) (R := (rP (rsC (rT rS) (rsC (rT rS) (rs1 (rT (rP (rsC rS (rsC rS (rs1 (rT rS))))))))))) (x := p_netlist) rfl h_p_netlist) (a_one (e_FK (e_callF (Rf := fun H => (rF H zI)) (fm := ⟨H, G, E, cl⟩) an_F (a_cons (e_add (e_var (K := K) (i := 7) (R := zI) (x := p_letter) rfl rfl) (e_mul (e_var (K := K) (i := 5) (R := zI) (x := p_state) rfl rfl) (e_shl e_int (e_var (K := K) (i := 1) (R := zI) (x := p_inputs) rfl rfl)))) (a_one (e_add (e_var (K := K) (i := 1) (R := zI) (x := p_inputs) rfl rfl) (e_var (K := K) (i := 2) (R := zI) (x := p_latches) rfl rfl))))))))) hs hm (fun p_ends vv9 G9 H9 e9 hs hv9 hm => ?_)
        obtain ⟨v_p_ends, rfl, h_p_ends⟩ := hv9
        have h_p_netlist := (((rP (rsC (rT rS) (rsC (rT rS) (rs1 (rT (rP (rsC rS (rsC rS (rs1 (rT rS))))))))))).mono e9 h_p_netlist)
        have h_p_rows := RLs.mono e9 h_p_rows
        have h_p_row := RLs.mono e9 h_p_row
        have b8 := Same.trans b8 e9
        refine (show (_ : TS) _ ([some v_p_netlist, some (.int p_inputs), some (.int p_latches), some (.int p_outputs), some (.ref l_p_rows), some (.int p_state), some (.ref l_p_row), some (.int p_letter), some v_p_ends, d_9, none, none] : L2.St) _ from ?_)
        refine w_asg (K := K) (tg_name (i := 9) (R := zI)) (e_sum (e_KL (EvN.evK (n_lc (S := zI) (i_rng1 (e_var (K := K) (i := 3) (R := zI) (x := p_outputs) rfl rfl)) (fun _ h => nomatch h) (tg_name (i := 11) (R := zI)) (by decide) (fun x10 vs10 G10 e10 hv10 => by
         obtain ⟨v10_p_k, rfl, h10_p_k⟩ := hv10
         exact ⟨t_yes, (e_mul (e_ixL (e_KL (e_var (K := K) (i := 8) (R := (rK zI)) (x := p_ends) rfl (((rK zI)).mono e10 h_p_ends))) (e_var (K := K) (i := 11) (R := zI) (x := x10) rfl h10_p_k)) (e_shl e_int (e_var (K := K) (i := 11) (R := zI) (x := x10) rfl h10_p_k)))⟩))))) hs hm (fun p_answer vv11 G11 H11 e11 hs hv11 hm => ?_)
        obtain ⟨v_p_answer, rfl, h_p_answer⟩ := hv11
        cases (show v_p_answer = V.int p_answer from h_p_answer)
        have h_p_netlist := (((rP (rsC (rT rS) (rsC (rT rS) (rs1 (rT (rP (rsC rS (rsC rS (rs1 (rT rS))))))))))).mono e11 h_p_netlist)
        have h_p_rows := RLs.mono e11 h_p_rows
        have h_p_row := RLs.mono e11 h_p_row
        have h_p_ends := (((rK zI)).mono e11 h_p_ends)
        have b8 := Same.trans b8 e11
        refine (show (_ : TS) _ ([some v_p_netlist, some (.int p_inputs), some (.int p_latches), some (.int p_outputs), some (.ref l_p_rows), some (.int p_state), some (.ref l_p_row), some (.int p_letter), some v_p_ends, some (.int p_answer), none, none] : L2.St) _ from ?_)
        refine w_app (K := K) (i := 6) 0 (xs := p_row) rfl rfl h_p_row (e_tup (lnC ln1) (a_cons (e_sum (e_KL (EvN.evK (n_lc (S := zI) (i_rng1 (e_var (K := K) (i := 2) (R := zI) (x := p_latches) rfl rfl)) (fun _ h => nomatch h) (tg_name (i := 11) (R := zI)) (by decide) (fun x12 vs12 G12 e12 hv12 => by
         obtain ⟨v12_p_k, rfl, h12_p_k⟩ := hv12
         exact ⟨t_yes, (e_mul (e_ixL (e_KL (e_var (K := K) (i := 8) (R := (rK zI)) (x := p_ends) rfl (((rK zI)).mono e12 h_p_ends))) (e_add (e_var (K := K) (i := 3) (R := zI) (x := p_outputs) rfl rfl) (e_var (K := K) (i := 11) (R := zI) (x := x12) rfl h12_p_k))) (e_shl e_int (e_var (K := K) (i := 11) (R := zI) (x := x12) rfl h12_p_k)))⟩))))) (a_one (e_var (K := K) (i := 9) (R := zI) (x := p_answer) rfl rfl))) (by decide)) hs hm (fun y13 w13 G13 H13 e13 hs h13 hm => ?_)
        have h_p_netlist := (((rP (rsC (rT rS) (rsC (rT rS) (rs1 (rT (rP (rsC rS (rsC rS (rs1 (rT rS))))))))))).mono e13 h_p_netlist)
        have h_p_rows := RLs.mono e13 h_p_rows
        have h_p_ends := (((rK zI)).mono e13 h_p_ends)
        have b8 := Same.trans b8 e13
        have h_p_row := h13
        generalize p_row ++ [y13] = p_row at hm h_p_row
        generalize vs_p_row ++ [w13] = vs_p_row at hs h_p_row
        exact E8.nx p_row _ _ _ _ _ b8 ⟨l_p_row, vs_p_row, some (.int p_letter), some v_p_ends, some (.int p_answer), rfl, rfl, h_p_row⟩ (Same.refl _) hs hm.out
      · obtain ⟨l_p_row, vs_p_row, d_7, d_8, d_9, rfl, rfl, h_p_row⟩ := w_
        have h_p_netlist := (((rP (rsC (rT rS) (rsC (rT rS) (rs1 (rT (rP (rsC rS (rsC rS (rs1 (rT rS))))))))))).mono e8 h_p_netlist)
        have h_p_rows := RLs.mono e8 h_p_rows
        have h_p_row := RLs.mono e18 h_p_row
        have b6 := Same.trans b6 e8
        refine (show (_ : TS) _ ([some v_p_netlist, some (.int p_inputs), some (.int p_latches), some (.int p_outputs), some (.ref l_p_rows), some (.int p_state), some (.ref l_p_row), d_7, d_8, d_9, none, none] : L2.St) _ from ?_)
        try dsimp only at hm
        have ng14 := (hs.at 0 rfl).2.1
        have eg14 := same_new (o := HO.lst vs_p_row) ng14
        have hs := hs.give 0 rfl
        have h_p_row : (rK (rP (rsC zI (rs1 zI)))).r K _ (.ref l_p_row) p_row := ⟨l_p_row, vs_p_row, rfl, upd_same, RLs.mono eg14 h_p_row⟩
        have h_p_netlist := (((rP (rsC (rT rS) (rsC (rT rS) (rs1 (rT (rP (rsC rS (rsC rS (rs1 (rT rS))))))))))).mono eg14 h_p_netlist)
        have h_p_rows := RLs.mono eg14 h_p_rows
        have b6 := Same.trans b6 eg14
        refine w_app (K := K) (i := 4) 0 (xs := p_rows) rfl rfl h_p_rows (e_tupleL (e_KL (e_var (K := K) (i := 6) (R := (rK (rP (rsC zI (rs1 zI))))) (x := p_row) rfl h_p_row))) hs hm (fun y15 w15 G15 H15 e15 hs h15 hm => ?_)
        have h_p_netlist := (((rP (rsC (rT rS) (rsC (rT rS) (rs1 (rT (rP (rsC rS (rsC rS (rs1 (rT rS))))))))))).mono e15 h_p_netlist)
        have h_p_row := (((rK (rP (rsC zI (rs1 zI))))).mono e15 h_p_row)
        have b6 := Same.trans b6 e15
        have h_p_rows := h15
        generalize p_rows ++ [y15] = p_rows at hm h_p_rows
        generalize vs_p_rows ++ [w15] = vs_p_rows at hs h_p_rows
        exact E6.nx p_rows _ _ _ _ _ b6 ⟨l_p_rows, vs_p_rows, some (.int p_state), some (.ref l_p_row), d_7, d_8, d_9, rfl, rfl, h_p_rows⟩ (Same.refl _) hs hm.out
    · obtain ⟨l_p_rows, vs_p_rows, d_5, d_6, d_7, d_8, d_9, rfl, rfl, h_p_rows⟩ := w_
      have h_p_netlist := (((rP (rsC (rT rS) (rsC (rT rS) (rs1 (rT (rP (rsC rS (rsC rS (rs1 (rT rS))))))))))).mono e6 h_p_netlist)
      have h_p_rows := RLs.mono e16 h_p_rows
      refine (show (_ : TS) _ ([some v_p_netlist, some (.int p_inputs), some (.int p_latches), some (.int p_outputs), some (.ref l_p_rows), d_5, d_6, d_7, d_8, d_9, none, none] : L2.St) _ from ?_)
      try dsimp only at hm
      have ng17 := (hs.at 0 rfl).2.1
      have eg17 := same_new (o := HO.lst vs_p_rows) ng17
      have hs := hs.give 0 rfl
      have h_p_rows : (rK (rT (rP (rsC zI (rs1 zI))))).r K _ (.ref l_p_rows) p_rows := ⟨l_p_rows, vs_p_rows, rfl, upd_same, RLs.mono eg17 h_p_rows⟩
      have h_p_netlist := (((rP (rsC (rT rS) (rsC (rT rS) (rs1 (rT (rP (rsC rS (rsC rS (rs1 (rT rS))))))))))).mono eg17 h_p_netlist)
      exact w_ret0 (K := K) (e_tup (lnC (lnC ln1)) (a_cons (e_var (K := K) (i := 1) (R := zI) (x := p_inputs) rfl rfl) (a_cons (e_var (K := K) (i := 3) (R := zI) (x := p_outputs) rfl rfl) (a_one (e_tupleL (e_KL (e_var (K := K) (i := 4) (R := (rK (rT (rP (rsC zI (rs1 zI)))))) (x := p_rows) rfl h_p_rows)))))) (by decide)) hs hm fun r v G2 H2 hs2 hr2 hq => hq v G2 H2 hs2.fin hr2

theorem ok_law_same_netlist {P : Program} {w : World} {K : PySem.W.Frag} {mg : Str → Option Value} {base : Heap} {cl : Nat → Addr} {fa : Addr} {fd : FuncData} (F : Fun K "_law_same_netlist" "_law_same_netlist" s_law_same_netlist fa fd) (T : Txt K mg cl)  :
    FnOk P w K mg base (L2.CX P w) 1 fa fd ["actual", "expected"] (spP K cl (rsC (rP (rsC (rT rS) (rsC (rT rS) (rs1 (rT (rP (rsC rS (rsC rS (rs1 (rT rS)))))))))) (rs1 (rP (rsC (rT rS) (rsC (rT rS) (rs1 (rT (rP (rsC rS (rsC rS (rs1 (rT rS)))))))))))) rB (fun a => m_law_same_netlist (a.1) (a.2))) := by
  refine F.okX sc_law_same_netlist (fun vs H Q E h => ?_) (fun cdv A outer s H vs Q E hr h => ?_)
  · obtain ⟨G, a, _, hS, _⟩ := h
    exact (lnC ln1) _ _ _ _ hS
  · obtain ⟨G, ⟨p_actual, p_expected⟩, hg, hS, hm⟩ := h
    obtain ⟨v_p_actual, _, rfl, h_p_actual, v_p_expected, rfl, h_p_expected⟩ := hS
    refine ⟨_, (pss_cons (ps_if (PW.pt (pw_or (pt_not (pt_val (pe_callB (r := rIsi K) call_isi (by rfl) T.n_isinstance b_isinstance (pa_cons (pv 0) (pa_cons (pe_bltn (v := .ty "tuple") (by rfl) T.n_tuple b_tuple rfl) pa_nil))))) (pw_or1 (pt_cmpR op_ne (pe_callB (r := Mw.rLen K) call_len (by rfl) T.n_len b_len (pa_cons (pv 0) pa_nil)) pe_int (nomark _))))) (pss_cons (ps_ret pe_bl)
     pss_nil) pss_nil)
     (pss_cons (ps_for (passes_of rfl) rfl (pi_range1 rfl T.n_range (pa_cons pe_int pa_nil)) (pg_name (i := 2) sc_law_same_netlist.nd rfl (by first | exact Or.inl rfl | exact Or.inr rfl)) (pss_cons (ps_if (PW.pt (pw_or (pt_not (pt_val (pe_callB (r := rIsi K) call_isi (by rfl) T.n_isinstance b_isinstance (pa_cons (pe_ix (r := rIxT K) ix_tup (pv 0) (pv 2) (fun _ _ => rfl)) (pa_cons (pe_bltn (v := .ty "tuple") (by rfl) T.n_tuple b_tuple rfl) pa_nil))))) (pw_or1 (pt_cmpR op_ne (pe_callB (r := Mw.rLen K) call_len (by rfl) T.n_len b_len (pa_cons (pe_ix (r := rIxT K) ix_tup (pv 0) (pv 2) (fun _ _ => rfl)) pa_nil)) (pe_callB (r := Mw.rLen K) call_len (by rfl) T.n_len b_len (pa_cons (pe_ix (r := rIxT K) ix_tup (pv 1) (pv 2) (fun _ _ => rfl)) pa_nil)) (nomark _))))) (pss_cons (ps_ret pe_bl)
     pss_nil) pss_nil)
     pss_nil))
     (pss_cons (ps_for (passes_of rfl) rfl (pi_tup (pe_op (r := rCatA K) op_catA (pe_ix (r := rIxT K) ix_tup (pv 0) pe_int (fun _ _ => rfl)) (pe_ix (r := rIxT K) ix_tup (pv 0) pe_int (fun _ _ => rfl)))) (pg_name (i := 3) sc_law_same_netlist.nd rfl (by first | exact Or.inl rfl | exact Or.inr rfl)) (pss_cons (ps_if (pt_not (pt_val (pe_callB (r := rIsi K) call_isi (by rfl) T.n_isinstance b_isinstance (pa_cons (pv 3) (pa_cons (pe_bltn (v := .ty "str") (by rfl) T.n_str b_str rfl) pa_nil))))) (pss_cons (ps_ret pe_bl)
     pss_nil) pss_nil)
     pss_nil))
     (pss_cons (ps_for (passes_of rfl) rfl (pi_tup (pe_ix (r := rIxT K) ix_tup (pv 0) pe_int (fun _ _ => rfl))) (pg_name (i := 4) sc_law_same_netlist.nd rfl (by first | exact Or.inl rfl | exact Or.inr rfl)) (pss_cons (ps_if (PW.pt (pw_or (pt_not (pt_val (pe_callB (r := rIsi K) call_isi (by rfl) T.n_isinstance b_isinstance (pa_cons (pv 4) (pa_cons (pe_bltn (v := .ty "tuple") (by rfl) T.n_tuple b_tuple rfl) pa_nil))))) (pw_or (pt_cmpR op_ne (pe_callB (r := Mw.rLen K) call_len (by rfl) T.n_len b_len (pa_cons (pv 4) pa_nil)) pe_int (nomark _)) (pw_or1 (pt_not (pt_val (pe_callB (r := rIsi K) call_isi (by rfl) T.n_isinstance b_isinstance (pa_cons (pe_ix (r := rIxT K) ix_tup (pv 4) pe_int (fun _ _ => rfl)) (pa_cons (pe_bltn (v := .ty "tuple") (by rfl) T.n_tuple b_tuple rfl) pa_nil))))))))) (pss_cons (ps_ret pe_bl)
     pss_nil) pss_nil)
     (pss_cons (ps_if (PW.pt (pw_or (pt_not (pt_val (pe_callB (r := rIsi K) call_isi (by rfl) T.n_isinstance b_isinstance (pa_cons (pe_ix (r := rIxT K) ix_tup (pv 4) pe_int (fun _ _ => rfl)) (pa_cons (pe_bltn (v := .ty "str") (by rfl) T.n_str b_str rfl) pa_nil))))) (pw_or1 (pt_not (pt_val (pe_callB (r := rIsi K) call_isi (by rfl) T.n_isinstance b_isinstance (pa_cons (pe_ix (r := rIxT K) ix_tup (pv 4) pe_int (fun _ _ => rfl)) (pa_cons (pe_bltn (v := .ty "str") (by rfl) T.n_str b_str rfl) pa_nil)))))))) (pss_cons (ps_ret pe_bl)
     pss_nil) pss_nil)
     pss_nil)))
     (pss_cons (ps_ret (pe_cmpR (r := rEqD K) (op_eqD hr.units) (pv 0) (pv 1) (nomark _)))
     pss_nil))))), ?_⟩
    have hs : Hs ⟨H, G, E, cl⟩ G [] H := Hs.start hg
    have hm := Wp.ofSp (G0 := G) hm
    try dsimp only at hm
    unfold m_law_same_netlist at hm
    refine (show (_ : TS) _ ([some v_p_actual, some v_p_expected, none, none, none] : L2.St) _ from ?_)
    refine w_if (t_or (t_not (t_val (K := K) (e_isi (g := fun _ => true) ty_P (fun _ => by decide +kernel) (e_var (K := K) (i := 0) (R := (rP (rsC (rT rS) (rsC (rT rS) (rs1 (rT (rP (rsC rS (rsC rS (rs1 (rT rS))))))))))) (x := p_actual) rfl h_p_actual)))) (t_test (K := K) (e_ne srI (e_lenP (lnC (lnC ln1)) (e_var (K := K) (i := 0) (R := (rP (rsC (rT rS) (rsC (rT rS) (rs1 (rT (rP (rsC rS (rsC rS (rs1 (rT rS))))))))))) (x := p_actual) rfl h_p_actual)) e_int))) hs hm (fun G1 H1 e1 hs hm => ?_) (fun G1 H1 e1 hs hm => ?_)
    · have h_p_actual := (((rP (rsC (rT rS) (rsC (rT rS) (rs1 (rT (rP (rsC rS (rsC rS (rs1 (rT rS))))))))))).mono e1 h_p_actual)
      have h_p_expected := (((rP (rsC (rT rS) (rsC (rT rS) (rs1 (rT (rP (rsC rS (rsC rS (rs1 (rT rS))))))))))).mono e1 h_p_expected)
      exact w_ret0 (K := K) e_bl hs hm fun r v G2 H2 hs2 hr2 hq => hq v G2 H2 hs2.fin hr2
    · have h_p_actual := (((rP (rsC (rT rS) (rsC (rT rS) (rs1 (rT (rP (rsC rS (rsC rS (rs1 (rT rS))))))))))).mono e1 h_p_actual)
      have h_p_expected := (((rP (rsC (rT rS) (rsC (rT rS) (rs1 (rT (rP (rsC rS (rsC rS (rs1 (rT rS))))))))))).mono e1 h_p_expected)
      refine nx_of ?_
      try dsimp only
      refine (show (_ : TS) _ ([some v_p_actual, some v_p_expected, none, none, none] : L2.St) _ from ?_)
      refine w_forB (K := K) (Rr := rB) (fun (_ : Unit) (σ : L2.St) (G : Hp) (O : Own) => ∃ (d_2 : Option V), σ = [some v_p_actual, some v_p_expected, d_2, none, none] ∧ O = []) (i_rng1 e_int) (fun _ _ _ _ _ _ h => nomatch h) (tg_name (i := 2) (R := zI)) hs hm ⟨none, rfl, rfl⟩ (fun r v G2 O2 H2 hs2 hr2 hq => hq v G2 H2 hs2.fin hr2) (fun p_k s_ σ_ G1_2 G2 O_ H2 vv2 D2 Qb2 e2 w_ e12 hs hv2 E2 hm => ?_) (fun s_ σ_ G1_2 G2 O_ H2 e2 w_ e12 hs hm => ?_)
      · obtain ⟨d_2, rfl, rfl⟩ := w_
        have h_p_actual := (((rP (rsC (rT rS) (rsC (rT rS) (rs1 (rT (rP (rsC rS (rsC rS (rs1 (rT rS))))))))))).mono e2 h_p_actual)
        have h_p_expected := (((rP (rsC (rT rS) (rsC (rT rS) (rs1 (rT (rP (rsC rS (rsC rS (rs1 (rT rS))))))))))).mono e2 h_p_expected)
        obtain ⟨v_p_k, rfl, h_p_k⟩ := hv2
        cases (show v_p_k = V.int p_k from h_p_k)
        have b2 := Same.refl G2
        refine (show (_ : TS) _ ([some v_p_actual, some v_p_expected, some (.int p_k), none, none] : L2.St) _ from ?_)
        unfold m_law_same_netlist_b11 at hm
        try dsimp only at hm
        refine w_if (t_or (t_not (t_val (K := K) (e_isi (g := fun _ => true) ty_Tl (fun _ => by decide +kernel) (e_ixT (e_P3L (e_var (K := K) (i := 0) (R := (rP (rsC (rT rS) (rsC (rT rS) (rs1 (rT (rP (rsC rS (rsC rS (rs1 (rT rS))))))))))) (x := p_actual) rfl h_p_actual)) (e_var (K := K) (i := 2) (R := zI) (x := p_k) rfl rfl))))) (t_test (K := K) (e_ne srI (e_lenTl (e_ixT (e_P3L (e_var (K := K) (i := 0) (R := (rP (rsC (rT rS) (rsC (rT rS) (rs1 (rT (rP (rsC rS (rsC rS (rs1 (rT rS))))))))))) (x := p_actual) rfl h_p_actual)) (e_var (K := K) (i := 2) (R := zI) (x := p_k) rfl rfl))) (e_lenTl (e_ixT (e_P3L (e_var (K := K) (i := 1) (R := (rP (rsC (rT rS) (rsC (rT rS) (rs1 (rT (rP (rsC rS (rsC rS (rs1 (rT rS))))))))))) (x := p_expected) rfl h_p_expected)) (e_var (K := K) (i := 2) (R := zI) (x := p_k) rfl rfl)))))) hs hm (fun G3 H3 e3 hs hm => ?_) (fun G3 H3 e3 hs hm => ?_)
        · have h_p_actual := (((rP (rsC (rT rS) (rsC (rT rS) (rs1 (rT (rP (rsC rS (rsC rS (rs1 (rT rS))))))))))).mono e3 h_p_actual)
          have h_p_expected := (((rP (rsC (rT rS) (rsC (rT rS) (rs1 (rT (rP (rsC rS (rsC rS (rs1 (rT rS))))))))))).mono e3 h_p_expected)
          have b2 := Same.trans b2 e3
          exact w_ret (K := K) (kr := Tn.rt) e_bl hs hm fun r v G2 H2 hs2 hr2 hq => E2.rt r v _ _ _ hs2 hr2 hq
        · have h_p_actual := (((rP (rsC (rT rS) (rsC (rT rS) (rs1 (rT (rP (rsC rS (rsC rS (rs1 (rT rS))))))))))).mono e3 h_p_actual)
          have h_p_expected := (((rP (rsC (rT rS) (rsC (rT rS) (rs1 (rT (rP (rsC rS (rsC rS (rs1 (rT rS))))))))))).mono e3 h_p_expected)
          have b2 := Same.trans b2 e3
          refine nx_of ?_
          try dsimp only
          refine (show (_ : TS) _ ([some v_p_actual, some v_p_expected, some (.int p_k), none, none] : L2.St) _ from ?_)
          exact E2.nx () _ _ _ _ _ b2 ⟨some (.int p_k), rfl, rfl⟩ (Same.refl _) hs hm.out
      · obtain ⟨d_2, rfl, rfl⟩ := w_
        have h_p_actual := (((rP (rsC (rT rS) (rsC (rT rS) (rs1 (rT (rP (rsC rS (rsC rS (rs1 (rT rS))))))))))).mono e2 h_p_actual)
        have h_p_expected := (((rP (rsC (rT rS) (rsC (rT rS) (rs1 (rT (rP (rsC rS (rsC rS (rs1 (rT rS))))))))))).mono e2 h_p_expected)
        refine (show (_ : TS) _ ([some v_p_actual, some v_p_expected, d_2, none, none] : L2.St) _ from ?_)
        try dsimp only at hm
        refine w_forB (K := K) (Rr := rB) (fun (_ : Unit) (σ : L2.St) (G : Hp) (O : Own) => ∃ (d_3 : Option V), σ = [some v_p_actual, some v_p_expected, d_2, d_3, none] ∧ O = []) (i_tup (e_catT (e_proj (k := 0) pj0 (e_var (K := K) (i := 0) (R := (rP (rsC (rT rS) (rsC (rT rS) (rs1 (rT (rP (rsC rS (rsC rS (rs1 (rT rS))))))))))) (x := p_actual) rfl h_p_actual)) (e_proj (k := 1) (pjS pj0) (e_var (K := K) (i := 0) (R := (rP (rsC (rT rS) (rsC (rT rS) (rs1 (rT (rP (rsC rS (rsC rS (rs1 (rT rS))))))))))) (x := p_actual) rfl h_p_actual)))) (fun _ _ _ _ _ _ h => nomatch h) (tg_name (i := 3) (R := rS)) hs hm ⟨none, rfl, rfl⟩ (fun r v G2 O2 H2 hs2 hr2 hq => hq v G2 H2 hs2.fin hr2) (fun p_name s_ σ_ G1_4 G4 O_ H4 vv4 D4 Qb4 e4 w_ e14 hs hv4 E4 hm => ?_) (fun s_ σ_ G1_4 G4 O_ H4 e4 w_ e14 hs hm => ?_)
        · obtain ⟨d_3, rfl, rfl⟩ := w_
          have h_p_actual := (((rP (rsC (rT rS) (rsC (rT rS) (rs1 (rT (rP (rsC rS (rsC rS (rs1 (rT rS))))))))))).mono e4 h_p_actual)
          have h_p_expected := (((rP (rsC (rT rS) (rsC (rT rS) (rs1 (rT (rP (rsC rS (rsC rS (rs1 (rT rS))))))))))).mono e4 h_p_expected)
          obtain ⟨v_p_name, rfl, h_p_name⟩ := hv4
          cases (show v_p_name = V.str p_name from h_p_name)
          have b4 := Same.refl G4
          refine (show (_ : TS) _ ([some v_p_actual, some v_p_expected, d_2, some (.str p_name), none] : L2.St) _ from ?_)
          unfold m_law_same_netlist_b10 at hm
          try dsimp only at hm
          refine w_if (t_not (t_val (K := K) (e_isi (g := fun _ => true) ty_S (fun _ => by decide +kernel) (e_var (K := K) (i := 3) (R := rS) (x := p_name) rfl rfl)))) hs hm (fun G5 H5 e5 hs hm => ?_) (fun G5 H5 e5 hs hm => ?_)
          · have h_p_actual := (((rP (rsC (rT rS) (rsC (rT rS) (rs1 (rT (rP (rsC rS (rsC rS (rs1 (rT rS))))))))))).mono e5 h_p_actual)
            have h_p_expected := (((rP (rsC (rT rS) (rsC (rT rS) (rs1 (rT (rP (rsC rS (rsC rS (rs1 (rT rS))))))))))).mono e5 h_p_expected)
            have b4 := Same.trans b4 e5
            exact w_ret (K := K) (kr := Tn.rt) e_bl hs hm fun r v G2 H2 hs2 hr2 hq => E4.rt r v _ _ _ hs2 hr2 hq
          · have h_p_actual := (((rP (rsC (rT rS) (rsC (rT rS) (rs1 (rT (rP (rsC rS (rsC rS (rs1 (rT rS))))))))))).mono e5 h_p_actual)
            have h_p_expected := (((rP (rsC (rT rS) (rsC (rT rS) (rs1 (rT (rP (rsC rS (rsC rS (rs1 (rT rS))))))))))).mono e5 h_p_expected)
            have b4 := Same.trans b4 e5
            refine nx_of ?_
            try dsimp only
            refine (show (_ : TS) _ ([some v_p_actual, some v_p_expected, d_2, some (.str p_name), none] : L2.St) _ from ?_)
            exact E4.nx () _ _ _ _ _ b4 ⟨some (.str p_name), rfl, rfl⟩ (Same.refl _) hs hm.out
        · obtain ⟨d_3, rfl, rfl⟩ := w_
          have h_p_actual := (((rP (rsC (rT rS) (rsC (rT rS) (rs1 (rT (rP (rsC rS (rsC rS (rs1 (rT rS))))))))))).mono e4 h_p_actual)
          have h_p_expected := (((rP (rsC (rT rS) (rsC (rT rS) (rs1 (rT (rP (rsC rS (rsC rS (rs1 (rT rS))))))))))).mono e4 h_p_expected)
          refine (show (_ : TS) _ ([some v_p_actual, some v_p_expected, d_2, d_3, none] : L2.St) _ from ?_)
          try dsimp only at hm
          refine w_forB (K := K) (Rr := rB) (fun (_ : Unit) (σ : L2.St) (G : Hp) (O : Own) => ∃ (d_4 : Option V), σ = [some v_p_actual, some v_p_expected, d_2, d_3, d_4] ∧ O = []) (i_tup (e_proj (k := 2) (pjS (pjS pj1)) (e_var (K := K) (i := 0) (R := (rP (rsC (rT rS) (rsC (rT rS) (rs1 (rT (rP (rsC rS (rsC rS (rs1 (rT rS))))))))))) (x := p_actual) rfl h_p_actual))) (fun _ _ _ _ _ _ h => nomatch h) (tg_name (i := 4) (R := (rP (rsC rS (rsC rS (rs1 (rT rS))))))) hs hm ⟨none, rfl, rfl⟩ (fun r v G2 O2 H2 hs2 hr2 hq => hq v G2 H2 hs2.fin hr2) (fun p_gate s_ σ_ G1_6 G6 O_ H6 vv6 D6 Qb6 e6 w_ e16 hs hv6 E6 hm => ?_) (fun s_ σ_ G1_6 G6 O_ H6 e6 w_ e16 hs hm => ?_)
          · obtain ⟨d_4, rfl, rfl⟩ := w_
            have h_p_actual := (((rP (rsC (rT rS) (rsC (rT rS) (rs1 (rT (rP (rsC rS (rsC rS (rs1 (rT rS))))))))))).mono e6 h_p_actual)
            have h_p_expected := (((rP (rsC (rT rS) (rsC (rT rS) (rs1 (rT (rP (rsC rS (rsC rS (rs1 (rT rS))))))))))).mono e6 h_p_expected)
            obtain ⟨v_p_gate, rfl, h_p_gate⟩ := hv6
            have b6 := Same.refl G6
            refine (show (_ : TS) _ ([some v_p_actual, some v_p_expected, d_2, d_3, some v_p_gate] : L2.St) _ from ?_)
            unfold m_law_same_netlist_b9 at hm
            try dsimp only at hm
            refine w_if (t_or (t_not (t_val (K := K) (e_isi (g := fun _ => true) ty_P (fun _ => by decide +kernel) (e_var (K := K) (i := 4) (R := (rP (rsC rS (rsC rS (rs1 (rT rS)))))) (x := p_gate) rfl h_p_gate)))) (t_or (t_test (K := K) (e_ne srI (e_lenP (lnC (lnC ln1)) (e_var (K := K) (i := 4) (R := (rP (rsC rS (rsC rS (rs1 (rT rS)))))) (x := p_gate) rfl h_p_gate)) e_int)) (t_not (t_val (K := K) (e_isi (g := fun _ => true) ty_T (fun _ => by decide +kernel) (e_proj (k := 2) (pjS (pjS pj1)) (e_var (K := K) (i := 4) (R := (rP (rsC rS (rsC rS (rs1 (rT rS)))))) (x := p_gate) rfl h_p_gate))))))) hs hm (fun G7 H7 e7 hs hm => ?_) (fun G7 H7 e7 hs hm => ?_)
            · have h_p_actual := (((rP (rsC (rT rS) (rsC (rT rS) (rs1 (rT (rP (rsC rS (rsC rS (rs1 (rT rS))))))))))).mono e7 h_p_actual)
              have h_p_expected := (((rP (rsC (rT rS) (rsC (rT rS) (rs1 (rT (rP (rsC rS (rsC rS (rs1 (rT rS))))))))))).mono e7 h_p_expected)
              have h_p_gate := (((rP (rsC rS (rsC rS (rs1 (rT rS)))))).mono e7 h_p_gate)
              have b6 := Same.trans b6 e7
              exact w_ret (K := K) (kr := Tn.rt) e_bl hs hm fun r v G2 H2 hs2 hr2 hq => E6.rt r v _ _ _ hs2 hr2 hq
            · have h_p_actual := (((rP (rsC (rT rS) (rsC (rT rS) (rs1 (rT (rP (rsC rS (rsC rS (rs1 (rT rS))))))))))).mono e7 h_p_actual)
              have h_p_expected := (((rP (rsC (rT rS) (rsC (rT rS) (rs1 (rT (rP (rsC rS (rsC rS (rs1 (rT rS))))))))))).mono e7 h_p_expected)
              have h_p_gate := (((rP (rsC rS (rsC rS (rs1 (rT rS)))))).mono e7 h_p_gate)
              have b6 := Same.trans b6 e7
              refine nx_of ?_
              try dsimp only
              refine (show (_ : TS) _ ([some v_p_actual, some v_p_expected, d_2, d_3, some v_p_gate] : L2.St) _ from ?_)
              refine w_if (t_or (t_not (t_val (K := K) (e_isi (g := fun _ => true) ty_S (fun _ => by decide +kernel) (e_proj (k := 0) pj0 (e_var (K := K) (i := 4) (R := (rP (rsC rS (rsC rS (rs1 (rT rS)))))) (x := p_gate) rfl h_p_gate))))) (t_not (t_val (K := K) (e_isi (g := fun _ => true) ty_S (fun _ => by decide +kernel) (e_proj (k := 1) (pjS pj0) (e_var (K := K) (i := 4) (R := (rP (rsC rS (rsC rS (rs1 (rT rS)))))) (x := p_gate) rfl h_p_gate)))))) hs hm (fun G8 H8 e8 hs hm => ?_) (fun G8 H8 e8 hs hm => ?_)
              · have h_p_actual := (((rP (rsC (rT rS) (rsC (rT rS) (rs1 (rT (rP (rsC rS (rsC rS (rs1 (rT rS))))))))))).mono e8 h_p_actual)
                have h_p_expected := (((rP (rsC (rT rS) (rsC (rT rS) (rs1 (rT (rP (rsC rS (rsC rS (rs1 (rT rS))))))))))).mono e8 h_p_expected)
                have h_p_gate := (((rP (rsC rS (rsC rS (rs1 (rT rS)))))).mono e8 h_p_gate)
                have b6 := Same.trans b6 e8
                exact w_ret (K := K) (kr := Tn.rt) e_bl hs hm fun r v G2 H2 hs2 hr2 hq => E6.rt r v _ _ _ hs2 hr2 hq
              · have h_p_actual := (((rP (rsC (rT rS) (rsC (rT rS) (rs1 (rT (rP (rsC rS (rsC rS (rs1 (rT rS))))))))))).mono e8 h_p_actual)
                have h_p_expected := (((rP (rsC (rT rS) (rsC (rT rS) (rs1 (rT (rP (rsC rS (rsC rS (rs1 (rT rS))))))))))).mono e8 h_p_expected)
                have h_p_gate := (((rP (rsC rS (rsC rS (rs1 (rT rS)))))).mono e8 h_p_gate)
                have b6 := Same.trans b6 e8
                refine nx_of ?_
                try dsimp only
                refine (show (_ : TS) _ ([some v_p_actual, some v_p_expected, d_2, d_3, some v_p_gate] : L2.St) _ from ?_)
                exact E6.nx () _ _ _ _ _ b6 ⟨some v_p_gate, rfl, rfl⟩ (Same.refl _) hs hm.out
          · obtain ⟨d_4, rfl, rfl⟩ := w_
            have h_p_actual := (((rP (rsC (rT rS) (rsC (rT rS) (rs1 (rT (rP (rsC rS (rsC rS (rs1 (rT rS))))))))))).mono e6 h_p_actual)
            have h_p_expected := (((rP (rsC (rT rS) (rsC (rT rS) (rs1 (rT (rP (rsC rS (rsC rS (rs1 (rT rS))))))))))).mono e6 h_p_expected)
            refine (show (_ : TS) _ ([some v_p_actual, some v_p_expected, d_2, d_3, d_4] : L2.St) _ from ?_)
            try dsimp only at hm
            exact w_ret0 (K := K) (e_eqQ (qeP (qeC (qeT qeS) (qeC (qeT qeS) (qe1 (qeT (qeP (qeC qeS (qeC qeS (qe1 (qeT qeS)))))))))) (by decide) (e_var (K := K) (i := 0) (R := (rP (rsC (rT rS) (rsC (rT rS) (rs1 (rT (rP (rsC rS (rsC rS (rs1 (rT rS))))))))))) (x := p_actual) rfl h_p_actual) (e_var (K := K) (i := 1) (R := (rP (rsC (rT rS) (rsC (rT rS) (rs1 (rT (rP (rsC rS (rsC rS (rs1 (rT rS))))))))))) (x := p_expected) rfl h_p_expected)) hs hm fun r v G2 H2 hs2 hr2 hq => hq v G2 H2 hs2.fin hr2

theorem ok_law_same_table {P : Program} {w : World} {K : PySem.W.Frag} {mg : Str → Option Value} {base : Heap} {cl : Nat → Addr} {fa : Addr} {fd : FuncData} (F : Fun K "_law_same_table" "_law_same_table" s_law_same_table fa fd) (T : Txt K mg cl) (C_law_is_integer : Cal P w K mg base "_law_is_integer" 1 ["actual"] (spP K cl (rs1 (rO zI)) rB (fun a => m_law_is_integer a))) :
    FnOk P w K mg base (L2.CX P w) 2 fa fd ["actual", "expected"] (spP K cl (rsC (rP (rsC zI (rsC zI (rs1 (rT (rT (rP (rsC zI (rs1 zI))))))))) (rs1 (rP (rsC zI (rsC zI (rs1 (rT (rT (rP (rsC zI (rs1 zI))))))))))) rB (fun a => m_law_same_table (a.1) (a.2))) := by
  refine F.okX sc_law_same_table (fun vs H Q E h => ?_) (fun cdv A outer s H vs Q E hr h => ?_)
  · obtain ⟨G, a, _, hS, _⟩ := h
    exact (lnC ln1) _ _ _ _ hS
  · obtain ⟨G, ⟨p_actual, p_expected⟩, hg, hS, hm⟩ := h
    obtain ⟨v_p_actual, _, rfl, h_p_actual, v_p_expected, rfl, h_p_expected⟩ := hS
    have tk : Takes (cxOf (L2.CX P w) P w K mg base N_law_same_table "_law_same_table" (defScope s_law_same_table) fa cdv A outer s H E) (fun cls d _ H => E cls d H) := takes_of rfl rfl rfl rfl
    refine ⟨_, (pss_cons (ps_if (PW.pt (pw_or (pt_not (pt_val (pe_callB (r := rIsi K) call_isi (by rfl) T.n_isinstance b_isinstance (pa_cons (pv 0) (pa_cons (pe_bltn (v := .ty "tuple") (by rfl) T.n_tuple b_tuple rfl) pa_nil))))) (pw_or (pt_cmpR op_ne (pe_callB (r := Mw.rLen K) call_len (by rfl) T.n_len b_len (pa_cons (pv 0) pa_nil)) pe_int (nomark _)) (pw_or1 (pt_not (pt_val (pe_callB (r := rIsi K) call_isi (by rfl) T.n_isinstance b_isinstance (pa_cons (pe_ix (r := rIxT K) ix_tup (pv 0) pe_int (fun _ _ => rfl)) (pa_cons (pe_bltn (v := .ty "tuple") (by rfl) T.n_tuple b_tuple rfl) pa_nil))))))))) (pss_cons (ps_ret pe_bl)
     pss_nil) pss_nil)
     (pss_cons (ps_if (PW.pt (pw_or (pt_not (pt_val (pe_call (E := E) C_law_is_integer.ok (hr.mono (by decide)) rfl C_law_is_integer.mgx C_law_is_integer.kp C_law_is_integer.bd .nil (passes_call tk (fun _ _ _ _ h => h)) (pa_cons (pe_ix (r := rIxT K) ix_tup (pv 0) pe_int (fun _ _ => rfl)) pa_nil)))) (pw_or1 (pt_not (pt_val (pe_call (E := E) C_law_is_integer.ok (hr.mono (by decide)) rfl C_law_is_integer.mgx C_law_is_integer.kp C_law_is_integer.bd .nil (passes_call tk (fun _ _ _ _ h => h)) (pa_cons (pe_ix (r := rIxT K) ix_tup (pv 0) pe_int (fun _ _ => rfl)) pa_nil))))))) (pss_cons (ps_ret pe_bl)
     pss_nil) pss_nil)
     (pss_cons (ps_for (passes_of rfl) rfl (pi_tup (pe_ix (r := rIxT K) ix_tup (pv 0) pe_int (fun _ _ => rfl))) (pg_name (i := 2) sc_law_same_table.nd rfl (by first | exact Or.inl rfl | exact Or.inr rfl)) (pss_cons (ps_if (pt_not (pt_val (pe_callB (r := rIsi K) call_isi (by rfl) T.n_isinstance b_isinstance (pa_cons (pv 2) (pa_cons (pe_bltn (v := .ty "tuple") (by rfl) T.n_tuple b_tuple rfl) pa_nil))))) (pss_cons (ps_ret pe_bl)
     pss_nil) pss_nil)
     (pss_cons (ps_for (passes_of rfl) rfl (pi_tup (pv 2)) (pg_name (i := 3) sc_law_same_table.nd rfl (by first | exact Or.inl rfl | exact Or.inr rfl)) (pss_cons (ps_if (PW.pt (pw_or (pt_not (pt_val (pe_callB (r := rIsi K) call_isi (by rfl) T.n_isinstance b_isinstance (pa_cons (pv 3) (pa_cons (pe_bltn (v := .ty "tuple") (by rfl) T.n_tuple b_tuple rfl) pa_nil))))) (pw_or1 (pt_cmpR op_ne (pe_callB (r := Mw.rLen K) call_len (by rfl) T.n_len b_len (pa_cons (pv 3) pa_nil)) pe_int (nomark _))))) (pss_cons (ps_ret pe_bl)
     pss_nil) pss_nil)
     (pss_cons (ps_if (PW.pt (pw_or (pt_not (pt_val (pe_call (E := E) C_law_is_integer.ok (hr.mono (by decide)) rfl C_law_is_integer.mgx C_law_is_integer.kp C_law_is_integer.bd .nil (passes_call tk (fun _ _ _ _ h => h)) (pa_cons (pe_ix (r := rIxT K) ix_tup (pv 3) pe_int (fun _ _ => rfl)) pa_nil)))) (pw_or1 (pt_not (pt_val (pe_call (E := E) C_law_is_integer.ok (hr.mono (by decide)) rfl C_law_is_integer.mgx C_law_is_integer.kp C_law_is_integer.bd .nil (passes_call tk (fun _ _ _ _ h => h)) (pa_cons (pe_ix (r := rIxT K) ix_tup (pv 3) pe_int (fun _ _ => rfl)) pa_nil))))))) (pss_cons (ps_ret pe_bl)
     pss_nil) pss_nil)
     pss_nil)))
     pss_nil)))
     (pss_cons (ps_ret (pe_cmpR (r := rEqD K) (op_eqD hr.units) (pv 0) (pv 1) (nomark _)))
     pss_nil)))), ?_⟩
    have hs : Hs ⟨H, G, E, cl⟩ G [] H := Hs.start hg
    have hm := Wp.ofSp (G0 := G) hm
    try dsimp only at hm
    unfold m_law_same_table at hm
    refine (show (_ : TS) _ ([some v_p_actual, some v_p_expected, none, none] : L2.St) _ from ?_)
    refine w_if (t_or (t_not (t_val (K := K) (e_isi (g := fun _ => true) ty_P (fun _ => by decide +kernel) (e_var (K := K) (i := 0) (R := (rP (rsC zI (rsC zI (rs1 (rT (rT (rP (rsC zI (rs1 zI)))))))))) (x := p_actual) rfl h_p_actual)))) (t_or (t_test (K := K) (e_ne srI (e_lenP (lnC (lnC ln1)) (e_var (K := K) (i := 0) (R := (rP (rsC zI (rsC zI (rs1 (rT (rT (rP (rsC zI (rs1 zI)))))))))) (x := p_actual) rfl h_p_actual)) e_int)) (t_not (t_val (K := K) (e_isi (g := fun _ => true) ty_T (fun _ => by decide +kernel) (e_proj (k := 2) (pjS (pjS pj1)) (e_var (K := K) (i := 0) (R := (rP (rsC zI (rsC zI (rs1 (rT (rT (rP (rsC zI (rs1 zI)))))))))) (x := p_actual) rfl h_p_actual))))))) hs hm (fun G1 H1 e1 hs hm => ?_) (fun G1 H1 e1 hs hm => ?_)
    · have h_p_actual := (((rP (rsC zI (rsC zI (rs1 (rT (rT (rP (rsC zI (rs1 zI)))))))))).mono e1 h_p_actual)
      have h_p_expected := (((rP (rsC zI (rsC zI (rs1 (rT (rT (rP (rsC zI (rs1 zI)))))))))).mono e1 h_p_expected)
      exact w_ret0 (K := K) e_bl hs hm fun r v G2 H2 hs2 hr2 hq => hq v G2 H2 hs2.fin hr2
    · have h_p_actual := (((rP (rsC zI (rsC zI (rs1 (rT (rT (rP (rsC zI (rs1 zI)))))))))).mono e1 h_p_actual)
      have h_p_expected := (((rP (rsC zI (rsC zI (rs1 (rT (rT (rP (rsC zI (rs1 zI)))))))))).mono e1 h_p_expected)
      refine nx_of ?_
      try dsimp only
      refine (show (_ : TS) _ ([some v_p_actual, some v_p_expected, none, none] : L2.St) _ from ?_)
      refine w_if (t_or (t_not (t_val (K := K) (e_call (fm := ⟨H, G, E, cl⟩) (a_one (e_some nn_I (e_proj (k := 0) pj0 (e_var (K := K) (i := 0) (R := (rP (rsC zI (rsC zI (rs1 (rT (rT (rP (rsC zI (rs1 zI)))))))))) (x := p_actual) rfl h_p_actual))))))) (t_not (t_val (K := K) (e_call (fm := ⟨H, G, E, cl⟩) (a_one (e_some nn_I (e_proj (k := 1) (pjS pj0) (e_var (K := K) (i := 0) (R := (rP (rsC zI (rsC zI (rs1 (rT (rT (rP (rsC zI (rs1 zI)))))))))) (x := p_actual) rfl h_p_actual)))))))) hs hm (fun G2 H2 e2 hs hm => ?_) (fun G2 H2 e2 hs hm => ?_)
      · have h_p_actual := (((rP (rsC zI (rsC zI (rs1 (rT (rT (rP (rsC zI (rs1 zI)))))))))).mono e2 h_p_actual)
        have h_p_expected := (((rP (rsC zI (rsC zI (rs1 (rT (rT (rP (rsC zI (rs1 zI)))))))))).mono e2 h_p_expected)
        exact w_ret0 (K := K) e_bl hs hm fun r v G2 H2 hs2 hr2 hq => hq v G2 H2 hs2.fin hr2
      · have h_p_actual := (((rP (rsC zI (rsC zI (rs1 (rT (rT (rP (rsC zI (rs1 zI)))))))))).mono e2 h_p_actual)
        have h_p_expected := (((rP (rsC zI (rsC zI (rs1 (rT (rT (rP (rsC zI (rs1 zI)))))))))).mono e2 h_p_expected)
        refine nx_of ?_
        try dsimp only
        refine (show (_ : TS) _ ([some v_p_actual, some v_p_expected, none, none] : L2.St) _ from ?_)
        refine w_forB (K := K) (Rr := rB) (fun (_ : Unit) (σ : L2.St) (G : Hp) (O : Own) => ∃ (d_2 : Option V) (d_3 : Option V), σ = [some v_p_actual, some v_p_expected, d_2, d_3] ∧ O = []) (i_tup (e_proj (k := 2) (pjS (pjS pj1)) (e_var (K := K) (i := 0) (R := (rP (rsC zI (rsC zI (rs1 (rT (rT (rP (rsC zI (rs1 zI)))))))))) (x := p_actual) rfl h_p_actual))) (fun _ _ _ _ _ _ h => nomatch h) (tg_name (i := 2) (R := (rT (rP (rsC zI (rs1 zI)))))) hs hm ⟨none, none, rfl, rfl⟩ (fun r v G2 O2 H2 hs2 hr2 hq => hq v G2 H2 hs2.fin hr2) (fun p_row s_ σ_ G1_3 G3 O_ H3 vv3 D3 Qb3 e3 w_ e13 hs hv3 E3 hm => ?_) (fun s_ σ_ G1_3 G3 O_ H3 e3 w_ e13 hs hm => ?_)
        · obtain ⟨d_2, d_3, rfl, rfl⟩ := w_
          have h_p_actual := (((rP (rsC zI (rsC zI (rs1 (rT (rT (rP (rsC zI (rs1 zI)))))))))).mono e3 h_p_actual)
          have h_p_expected := (((rP (rsC zI (rsC zI (rs1 (rT (rT (rP (rsC zI (rs1 zI)))))))))).mono e3 h_p_expected)
          obtain ⟨v_p_row, rfl, h_p_row⟩ := hv3
          have b3 := Same.refl G3
          refine (show (_ : TS) _ ([some v_p_actual, some v_p_expected, some v_p_row, d_3] : L2.St) _ from ?_)
          unfold m_law_same_table_b9 at hm
          try dsimp only at hm
          refine w_if (t_not (t_val (K := K) (e_isi (g := fun _ => true) ty_T (fun _ => by decide +kernel) (e_var (K := K) (i := 2) (R := (rT (rP (rsC zI (rs1 zI))))) (x := p_row) rfl h_p_row)))) hs hm (fun G4 H4 e4 hs hm => ?_) (fun G4 H4 e4 hs hm => ?_)
          · have h_p_actual := (((rP (rsC zI (rsC zI (rs1 (rT (rT (rP (rsC zI (rs1 zI)))))))))).mono e4 h_p_actual)
            have h_p_expected := (((rP (rsC zI (rsC zI (rs1 (rT (rT (rP (rsC zI (rs1 zI)))))))))).mono e4 h_p_expected)
            have h_p_row := (((rT (rP (rsC zI (rs1 zI))))).mono e4 h_p_row)
            have b3 := Same.trans b3 e4
            exact w_ret (K := K) (kr := Tn.rt) e_bl hs hm fun r v G2 H2 hs2 hr2 hq => E3.rt r v _ _ _ hs2 hr2 hq
          · have h_p_actual := (((rP (rsC zI (rsC zI (rs1 (rT (rT (rP (rsC zI (rs1 zI)))))))))).mono e4 h_p_actual)
            have h_p_expected := (((rP (rsC zI (rsC zI (rs1 (rT (rT (rP (rsC zI (rs1 zI)))))))))).mono e4 h_p_expected)
            have h_p_row := (((rT (rP (rsC zI (rs1 zI))))).mono e4 h_p_row)
            have b3 := Same.trans b3 e4
            refine nx_of ?_
            try dsimp only
            refine (show (_ : TS) _ ([some v_p_actual, some v_p_expected, some v_p_row, d_3] : L2.St) _ from ?_)
            refine w_forB (K := K) (Rr := rB) (fun (_ : Unit) (σ : L2.St) (G : Hp) (O : Own) => ∃ (d_3 : Option V), σ = [some v_p_actual, some v_p_expected, some v_p_row, d_3] ∧ O = []) (i_tup (e_var (K := K) (i := 2) (R := (rT (rP (rsC zI (rs1 zI))))) (x := p_row) rfl h_p_row)) (fun _ _ _ _ _ _ h => nomatch h) (tg_name (i := 3) (R := (rP (rsC zI (rs1 zI))))) hs hm ⟨d_3, rfl, rfl⟩ (fun r v G2 O2 H2 hs2 hr2 hq => E3.rt r v _ _ _ hs2 hr2 hq) (fun p_pair s_ σ_ G1_5 G5 O_ H5 vv5 D5 Qb5 e5 w_ e15 hs hv5 E5 hm => ?_) (fun s_ σ_ G1_5 G5 O_ H5 e5 w_ e15 hs hm => ?_)
            · obtain ⟨d_3, rfl, rfl⟩ := w_
              have h_p_actual := (((rP (rsC zI (rsC zI (rs1 (rT (rT (rP (rsC zI (rs1 zI)))))))))).mono e5 h_p_actual)
              have h_p_expected := (((rP (rsC zI (rsC zI (rs1 (rT (rT (rP (rsC zI (rs1 zI)))))))))).mono e5 h_p_expected)
              have h_p_row := (((rT (rP (rsC zI (rs1 zI))))).mono e5 h_p_row)
              obtain ⟨v_p_pair, rfl, h_p_pair⟩ := hv5
              have b5 := Same.refl G5
              refine (show (_ : TS) _ ([some v_p_actual, some v_p_expected, some v_p_row, some v_p_pair] : L2.St) _ from ?_)
              unfold m_law_same_table_b8 at hm
              try dsimp only at hm
              refine w_if (t_or (t_not (t_val (K := K) (e_isi (g := fun _ => true) ty_P (fun _ => by decide +kernel) (e_var (K := K) (i := 3) (R := (rP (rsC zI (rs1 zI)))) (x := p_pair) rfl h_p_pair)))) (t_test (K := K) (e_ne srI (e_lenP (lnC ln1) (e_var (K := K) (i := 3) (R := (rP (rsC zI (rs1 zI)))) (x := p_pair) rfl h_p_pair)) e_int))) hs hm (fun G6 H6 e6 hs hm => ?_) (fun G6 H6 e6 hs hm => ?_)
              · have h_p_actual := (((rP (rsC zI (rsC zI (rs1 (rT (rT (rP (rsC zI (rs1 zI)))))))))).mono e6 h_p_actual)
                have h_p_expected := (((rP (rsC zI (rsC zI (rs1 (rT (rT (rP (rsC zI (rs1 zI)))))))))).mono e6 h_p_expected)
                have h_p_row := (((rT (rP (rsC zI (rs1 zI))))).mono e6 h_p_row)
                have h_p_pair := (((rP (rsC zI (rs1 zI)))).mono e6 h_p_pair)
                have b5 := Same.trans b5 e6
                exact w_ret (K := K) (kr := Tn.rt) e_bl hs hm fun r v G2 H2 hs2 hr2 hq => E5.rt r v _ _ _ hs2 hr2 hq
              · have h_p_actual := (((rP (rsC zI (rsC zI (rs1 (rT (rT (rP (rsC zI (rs1 zI)))))))))).mono e6 h_p_actual)
                have h_p_expected := (((rP (rsC zI (rsC zI (rs1 (rT (rT (rP (rsC zI (rs1 zI)))))))))).mono e6 h_p_expected)
                have h_p_row := (((rT (rP (rsC zI (rs1 zI))))).mono e6 h_p_row)
                have h_p_pair := (((rP (rsC zI (rs1 zI)))).mono e6 h_p_pair)
                have b5 := Same.trans b5 e6
                refine nx_of ?_
                try dsimp only
                refine (show (_ : TS) _ ([some v_p_actual, some v_p_expected, some v_p_row, some v_p_pair] : L2.St) _ from ?_)
                refine w_if (t_or (t_not (t_val (K := K) (e_call (fm := ⟨H, G, E, cl⟩) (a_one (e_some nn_I (e_proj (k := 0) pj0 (e_var (K := K) (i := 3) (R := (rP (rsC zI (rs1 zI)))) (x := p_pair) rfl h_p_pair))))))) (t_not (t_val (K := K) (e_call (fm := ⟨H, G, E, cl⟩) (a_one (e_some nn_I (e_proj (k := 1) (pjS pj1) (e_var (K := K) (i := 3) (R := (rP (rsC zI (rs1 zI)))) (x := p_pair) rfl h_p_pair)))))))) hs hm (fun G7 H7 e7 hs hm => ?_) (fun G7 H7 e7 hs hm => ?_)
                · have h_p_actual := (((rP (rsC zI (rsC zI (rs1 (rT (rT (rP (rsC zI (rs1 zI)))))))))).mono e7 h_p_actual)
                  have h_p_expected := (((rP (rsC zI (rsC zI (rs1 (rT (rT (rP (rsC zI (rs1 zI)))))))))).mono e7 h_p_expected)
                  have h_p_row := (((rT (rP (rsC zI (rs1 zI))))).mono e7 h_p_row)
                  have h_p_pair := (((rP (rsC zI (rs1 zI)))).mono e7 h_p_pair)
                  have b5 := Same.trans b5 e7
                  exact w_ret (K := K) (kr := Tn.rt) e_bl hs hm fun r v G2 H2 hs2 hr2 hq => E5.rt r v _ _ _ hs2 hr2 hq
                · have h_p_actual := (((rP (rsC zI (rsC zI (rs1 (rT (rT (rP (rsC zI (rs1 zI)))))))))).mono e7 h_p_actual)
                  have h_p_expected := (((rP (rsC zI (rsC zI (rs1 (rT (rT (rP (rsC zI (rs1 zI)))))))))).mono e7 h_p_expected)
                  have h_p_row := (((rT (rP (rsC zI (rs1 zI))))).mono e7 h_p_row)
                  have h_p_pair := (((rP (rsC zI (rs1 zI)))).mono e7 h_p_pair)
                  have b5 := Same.trans b5 e7
                  refine nx_of ?_
                  try dsimp only
                  refine (show (_ : TS) _ ([some v_p_actual, some v_p_expected, some v_p_row, some v_p_pair] : L2.St) _ from ?_)
                  exact E5.nx () _ _ _ _ _ b5 ⟨some v_p_pair, rfl, rfl⟩ (Same.refl _) hs hm.out
            · obtain ⟨d_3, rfl, rfl⟩ := w_
              have h_p_actual := (((rP (rsC zI (rsC zI (rs1 (rT (rT (rP (rsC zI (rs1 zI)))))))))).mono e5 h_p_actual)
              have h_p_expected := (((rP (rsC zI (rsC zI (rs1 (rT (rT (rP (rsC zI (rs1 zI)))))))))).mono e5 h_p_expected)
              have h_p_row := (((rT (rP (rsC zI (rs1 zI))))).mono e5 h_p_row)
              have b3 := Same.trans b3 e5
              refine (show (_ : TS) _ ([some v_p_actual, some v_p_expected, some v_p_row, d_3] : L2.St) _ from ?_)
              try dsimp only at hm
              exact E3.nx () _ _ _ _ _ b3 ⟨some v_p_row, d_3, rfl, rfl⟩ (Same.refl _) hs hm.out
        · obtain ⟨d_2, d_3, rfl, rfl⟩ := w_
          have h_p_actual := (((rP (rsC zI (rsC zI (rs1 (rT (rT (rP (rsC zI (rs1 zI)))))))))).mono e3 h_p_actual)
          have h_p_expected := (((rP (rsC zI (rsC zI (rs1 (rT (rT (rP (rsC zI (rs1 zI)))))))))).mono e3 h_p_expected)
          refine (show (_ : TS) _ ([some v_p_actual, some v_p_expected, d_2, d_3] : L2.St) _ from ?_)
          try dsimp only at hm
          exact w_ret0 (K := K) (e_eqD (qP (qsC qI (qsC qI (qs1 (qT (qT (qP (qsC qI (qs1 qI))))))))) (by decide) (e_var (K := K) (i := 0) (R := (rP (rsC zI (rsC zI (rs1 (rT (rT (rP (rsC zI (rs1 zI)))))))))) (x := p_actual) rfl h_p_actual) (e_var (K := K) (i := 1) (R := (rP (rsC zI (rsC zI (rs1 (rT (rT (rP (rsC zI (rs1 zI)))))))))) (x := p_expected) rfl h_p_expected)) hs hm fun r v G2 H2 hs2 hr2 hq => hq v G2 H2 hs2.fin hr2

theorem ok_law_joined_tables {P : Program} {w : World} {K : PySem.W.Frag} {mg : Str → Option Value} {base : Heap} {cl : Nat → Addr} {fa : Addr} {fd : FuncData} (F : Fun K "_law_joined_tables" "_law_joined_tables" s_law_joined_tables fa fd) (T : Txt K mg cl)  :
    FnOk P w K mg base (L2.CX P w) 1 fa fd ["first", "second"] (spP K cl (rsC (rP (rsC zI (rsC zI (rs1 (rT (rT (rP (rsC zI (rs1 zI))))))))) (rs1 (rP (rsC zI (rsC zI (rs1 (rT (rT (rP (rsC zI (rs1 zI))))))))))) (rP (rsC zI (rsC zI (rs1 (rT (rT (rP (rsC zI (rs1 zI))))))))) (fun a => m_law_joined_tables (a.1) (a.2))) := by
  refine F.okX sc_law_joined_tables (fun vs H Q E h => ?_) (fun cdv A outer s H vs Q E hr h => ?_)
  · obtain ⟨G, a, _, hS, _⟩ := h
    exact (lnC ln1) _ _ _ _ hS
  · obtain ⟨G, ⟨p_first, p_second⟩, hg, hS, hm⟩ := h
    obtain ⟨v_p_first, _, rfl, h_p_first, v_p_second, rfl, h_p_second⟩ := hS
    refine ⟨_, (pss_cons (ps_set (i := 2) sc_law_joined_tables.nd rfl (by first | exact Or.inl rfl | exact Or.inr rfl) (pe_callB (r := Mw.rLen K) call_len (by rfl) T.n_len b_len (pa_cons (pe_ix (r := rIxT K) ix_tup (pv 0) pe_int (fun _ _ => rfl)) pa_nil)))
     (pss_cons (ps_set (i := 3) sc_law_joined_tables.nd rfl (by first | exact Or.inl rfl | exact Or.inr rfl) (pe_lst pa_nil))
     (pss_cons (ps_for (passes_of rfl) rfl (pi_range1 rfl T.n_range (pa_cons (pe_op op_mul (pv 2) (pe_callB (r := Mw.rLen K) call_len (by rfl) T.n_len b_len (pa_cons (pe_ix (r := rIxT K) ix_tup (pv 1) pe_int (fun _ _ => rfl)) pa_nil))) pa_nil)) (pg_name (i := 4) sc_law_joined_tables.nd rfl (by first | exact Or.inl rfl | exact Or.inr rfl)) (pss_cons (ps_set (i := 5) sc_law_joined_tables.nd rfl (by first | exact Or.inl rfl | exact Or.inr rfl) (pe_lst pa_nil))
     (pss_cons (ps_for (passes_of rfl) rfl (pi_tup (pe_ix (r := rIxT K) ix_tup (pe_ix (r := rIxT K) ix_tup (pv 0) pe_int (fun _ _ => rfl)) (pe_op op_mod (pe_callTy call_int1 (by rfl) T.n_int b_int (pa_cons (pv 4) pa_nil)) (pv 2)) (fun _ _ => rfl))) (show PG _ _ (gTup K 2 _) from pg_tup rfl (pgs_cons (pg_name (i := 6) sc_law_joined_tables.nd rfl (by first | exact Or.inl rfl | exact Or.inr rfl)) (pgs_cons (pg_name (i := 7) sc_law_joined_tables.nd rfl (by first | exact Or.inl rfl | exact Or.inr rfl)) pgs_nil))) (pss_cons (ps_asg (pe_ix (r := rIxT K) ix_tup (pe_ix (r := rIxT K) ix_tup (pe_ix (r := rIxT K) ix_tup (pv 1) pe_int (fun _ _ => rfl)) (pe_op op_fdiv (pv 4) (pv 2)) (fun _ _ => rfl)) (pv 7) (fun _ _ => rfl)) (show PG _ _ (gTup K 2 _) from pg_tup rfl (pgs_cons (pg_name (i := 8) sc_law_joined_tables.nd rfl (by first | exact Or.inl rfl | exact Or.inr rfl)) (pgs_cons (pg_name (i := 9) sc_law_joined_tables.nd rfl (by first | exact Or.inl rfl | exact Or.inr rfl)) pgs_nil))))
     (pss_cons (ps_expr (pe_bm PySem.F.plainAttrs_list PySem.F.slot_list_append PySem.F.type_list_append mt_append (pv 5) (pa_cons (pe_tup (pa_cons (pe_op op_add (pv 6) (pe_op op_mul (pv 2) (pv 8))) (pa_cons (pv 9) pa_nil))) pa_nil)))
     pss_nil)))
     (pss_cons (ps_expr (pe_bm PySem.F.plainAttrs_list PySem.F.slot_list_append PySem.F.type_list_append mt_append (pv 3) (pa_cons (pe_callTy (r := rTu K) call_tuple_of (by rfl) T.n_tuple b_tuple (pa_cons (pv 5) pa_nil)) pa_nil)))
     pss_nil))))
     (pss_cons (ps_ret (pe_tup (pa_cons (pe_ix (r := rIxT K) ix_tup (pv 0) pe_int (fun _ _ => rfl)) (pa_cons (pe_ix (r := rIxT K) ix_tup (pv 1) pe_int (fun _ _ => rfl)) (pa_cons (pe_callTy (r := rTu K) call_tuple_of (by rfl) T.n_tuple b_tuple (pa_cons (pv 3) pa_nil)) pa_nil)))))
     pss_nil)))), ?_⟩
    have hs : Hs ⟨H, G, E, cl⟩ G [] H := Hs.start hg
    have hm := Wp.ofSp (G0 := G) hm
    try dsimp only at hm
    unfold m_law_joined_tables at hm
    refine (show (_ : TS) _ ([some v_p_first, some v_p_second, none, none, none, none, none, none, none, none] : L2.St) _ from ?_)
    refine w_asg (K := K) (tg_name (i := 2) (R := zI)) (e_len sq_T (e_proj (k := 2) (pjS (pjS pj1)) (e_var (K := K) (i := 0) (R := (rP (rsC zI (rsC zI (rs1 (rT (rT (rP (rsC zI (rs1 zI)))))))))) (x := p_first) rfl h_p_first))) hs hm (fun p_count vv1 G1 H1 e1 hs hv1 hm => ?_)
    obtain ⟨v_p_count, rfl, h_p_count⟩ := hv1
    cases (show v_p_count = V.int p_count from h_p_count)
    have h_p_first := (((rP (rsC zI (rsC zI (rs1 (rT (rT (rP (rsC zI (rs1 zI)))))))))).mono e1 h_p_first)
    have h_p_second := (((rP (rsC zI (rsC zI (rs1 (rT (rT (rP (rsC zI (rs1 zI)))))))))).mono e1 h_p_second)
    refine (show (_ : TS) _ ([some v_p_first, some v_p_second, some (.int p_count), none, none, none, none, none, none, none] : L2.St) _ from ?_)
    refine w_asgN (K := K) (R := (rT (rP (rsC zI (rs1 zI))))) (i := 3) (e_lst l_nil (by decide)) hs hm (fun p_rows l_p_rows vs_p_rows G2 H2 e2 hs h2 hm => ?_)
    have h_p_first := (((rP (rsC zI (rsC zI (rs1 (rT (rT (rP (rsC zI (rs1 zI)))))))))).mono e2 h_p_first)
    have h_p_second := (((rP (rsC zI (rsC zI (rs1 (rT (rT (rP (rsC zI (rs1 zI)))))))))).mono e2 h_p_second)
    have h_p_rows := h2
    refine (show (_ : TS) _ ([some v_p_first, some v_p_second, some (.int p_count), some (.ref l_p_rows), none, none, none, none, none, none] : L2.St) _ from ?_)
    refine w_forM (K := K) (fun (p_rows : (List (List (Int × Int)))) (σ : L2.St) (G : Hp) (O : Own) => ∃ (l_p_rows : Addr) (vs_p_rows : List V) (d_4 : Option V) (d_5 : Option V) (d_6 : Option V) (d_7 : Option V) (d_8 : Option V) (d_9 : Option V), σ = [some v_p_first, some v_p_second, some (.int p_count), some (.ref l_p_rows), d_4, d_5, d_6, d_7, d_8, d_9] ∧ O = [(l_p_rows, .lst vs_p_rows)] ∧ RLs (rT (rP (rsC zI (rs1 zI)))) K G vs_p_rows p_rows) (i_rng1 (e_mul (e_var (K := K) (i := 2) (R := zI) (x := p_count) rfl rfl) (e_len sq_T (e_proj (k := 2) (pjS (pjS pj1)) (e_var (K := K) (i := 1) (R := (rP (rsC zI (rsC zI (rs1 (rT (rT (rP (rsC zI (rs1 zI)))))))))) (x := p_second) rfl h_p_second))))) (fun _ _ _ _ _ _ h => nomatch h) (tg_name (i := 4) (R := zI)) hs hm ⟨l_p_rows, vs_p_rows, none, none, none, none, none, none, rfl, rfl, h_p_rows⟩ (fun p_state p_rows σ_ G1_3 G3 O_ H3 vv3 D3 Qb3 e3 w_ e13 hs hv3 E3 hm => ?_) (fun p_rows σ_ G1_3 G3 O_ H3 e3 w_ e13 hs hm => ?_)
    · obtain ⟨l_p_rows, vs_p_rows, d_4, d_5, d_6, d_7, d_8, d_9, rfl, rfl, h_p_rows⟩ := w_
      have h_p_first := (((rP (rsC zI (rsC zI (rs1 (rT (rT (rP (rsC zI (rs1 zI)))))))))).mono e3 h_p_first)
      have h_p_second := (((rP (rsC zI (rsC zI (rs1 (rT (rT (rP (rsC zI (rs1 zI)))))))))).mono e3 h_p_second)
      have h_p_rows := RLs.mono e13 h_p_rows
      obtain ⟨v_p_state, rfl, h_p_state⟩ := hv3
      cases (show v_p_state = V.int p_state from h_p_state)
      have b3 := Same.refl G3
      refine (show (_ : TS) _ ([some v_p_first, some v_p_second, some (.int p_count), some (.ref l_p_rows), some (.int p_state), d_5, d_6, d_7, d_8, d_9] : L2.St) _ from ?_)
      unfold m_law_joined_tables_b12 at hm
      try dsimp only at hm
      refine w_asgN (K := K) (R := (rP (rsC zI (rs1 zI)))) (i := 5) (e_lst l_nil (by decide)) hs hm (fun p_row l_p_row vs_p_row G4 H4 e4 hs h4 hm => ?_)
      have h_p_first := (((rP (rsC zI (rsC zI (rs1 (rT (rT (rP (rsC zI (rs1 zI)))))))))).mono e4 h_p_first)
      have h_p_second := (((rP (rsC zI (rsC zI (rs1 (rT (rT (rP (rsC zI (rs1 zI)))))))))).mono e4 h_p_second)
      have h_p_rows := RLs.mono e4 h_p_rows
      have b3 := Same.trans b3 e4
      have h_p_row := h4
      refine (show (_ : TS) _ ([some v_p_first, some v_p_second, some (.int p_count), some (.ref l_p_rows), some (.int p_state), some (.ref l_p_row), d_6, d_7, d_8, d_9] : L2.St) _ from ?_)
      refine w_forM (K := K) (fun (p_row : (List (Int × Int))) (σ : L2.St) (G : Hp) (O : Own) => ∃ (l_p_row : Addr) (vs_p_row : List V) (d_6 : Option V) (d_7 : Option V) (d_8 : Option V) (d_9 : Option V), σ = [some v_p_first, some v_p_second, some (.int p_count), some (.ref l_p_rows), some (.int p_state), some (.ref l_p_row), d_6, d_7, d_8, d_9] ∧ O = [(l_p_row, .lst vs_p_row), (l_p_rows, .lst vs_p_rows)] ∧ RLs (rP (rsC zI (rs1 zI))) K G vs_p_row p_row) (i_tup (e_ixT (e_proj (k := 2) (pjS (pjS pj1)) (e_var (K := K) (i := 0) (R := (rP (rsC zI (rsC zI (rs1 (rT (rT (rP (rsC zI (rs1 zI)))))))))) (x := p_first) rfl h_p_first)) (e_mod (e_intI (e_var (K := K) (i := 4) (R := zI) (x := p_state) rfl rfl)) (e_var (K := K) (i := 2) (R := zI) (x := p_count) rfl rfl)))) (fun _ _ _ _ _ _ h => nomatch h) (tg_tup2) hs hm ⟨l_p_row, vs_p_row, d_6, d_7, d_8, d_9, rfl, rfl, h_p_row⟩ (fun x5 p_row σ_ G1_5 G5 O_ H5 vv5 D5 Qb5 e5 w_ e15 hs hv5 E5 hm => ?_) (fun p_row σ_ G1_5 G5 O_ H5 e5 w_ e15 hs hm => ?_)
      · obtain ⟨l_p_row, vs_p_row, d_6, d_7, d_8, d_9, rfl, rfl, h_p_row⟩ := w_
        have h_p_first := (((rP (rsC zI (rsC zI (rs1 (rT (rT (rP (rsC zI (rs1 zI)))))))))).mono e5 h_p_first)
        have h_p_second := (((rP (rsC zI (rsC zI (rs1 (rT (rT (rP (rsC zI (rs1 zI)))))))))).mono e5 h_p_second)
        have h_p_rows := RLs.mono e5 h_p_rows
        have h_p_row := RLs.mono e15 h_p_row
        obtain ⟨p_left, p_middle⟩ := x5
        obtain ⟨v_p_left, _, rfl, h_p_left, v_p_middle, rfl, h_p_middle⟩ := hv5
        cases (show v_p_left = V.int p_left from h_p_left)
        cases (show v_p_middle = V.int p_middle from h_p_middle)
        have b5 := Same.refl G5
        refine (show (_ : TS) _ ([some v_p_first, some v_p_second, some (.int p_count), some (.ref l_p_rows), some (.int p_state), some (.ref l_p_row), some (.int p_left), some (.int p_middle), d_8, d_9] : L2.St) _ from ?_)
        unfold m_law_joined_tables_b10 at hm
        try dsimp only at hm
        refine w_asg (K := K) (tg_tup2) (e_ixT (e_ixT (e_proj (k := 2) (pjS (pjS pj1)) (e_var (K := K) (i := 1) (R := (rP (rsC zI (rsC zI (rs1 (rT (rT (rP (rsC zI (rs1 zI)))))))))) (x := p_second) rfl h_p_second)) (e_fdiv (e_var (K := K) (i := 4) (R := zI) (x := p_state) rfl rfl) (e_var (K := K) (i := 2) (R := zI) (x := p_count) rfl rfl))) (e_var (K := K) (i := 7) (R := zI) (x := p_middle) rfl rfl)) hs hm (fun p6 vv6 G6 H6 e6 hs hv6 hm => ?_)
        obtain ⟨p_right, p_answer⟩ := p6
        obtain ⟨v_p_right, _, rfl, h_p_right, v_p_answer, rfl, h_p_answer⟩ := hv6
        cases (show v_p_right = V.int p_right from h_p_right)
        cases (show v_p_answer = V.int p_answer from h_p_answer)
        have h_p_first := (((rP (rsC zI (rsC zI (rs1 (rT (rT (rP (rsC zI (rs1 zI)))))))))).mono e6 h_p_first)
        have h_p_second := (((rP (rsC zI (rsC zI (rs1 (rT (rT (rP (rsC zI (rs1 zI)))))))))).mono e6 h_p_second)
        have h_p_rows := RLs.mono e6 h_p_rows
        have h_p_row := RLs.mono e6 h_p_row
        have b5 := Same.trans b5 e6
        refine (show (_ : TS) _ ([some v_p_first, some v_p_second, some (.int p_count), some (.ref l_p_rows), some (.int p_state), some (.ref l_p_row), some (.int p_left), some (.int p_middle), some (.int p_right), some (.int p_answer)] : L2.St) _ from ?_)
        refine w_app (K := K) (i := 5) 0 (xs := p_row) rfl rfl h_p_row (e_tup (lnC ln1) (a_cons (e_add (e_var (K := K) (i := 6) (R := zI) (x := p_left) rfl rfl) (e_mul (e_var (K := K) (i := 2) (R := zI) (x := p_count) rfl rfl) (e_var (K := K) (i := 8) (R := zI) (x := p_right) rfl rfl))) (a_one (e_var (K := K) (i := 9) (R := zI) (x := p_answer) rfl rfl))) (by decide)) hs hm (fun y7 w7 G7 H7 e7 hs h7 hm => ?_)
        have h_p_first := (((rP (rsC zI (rsC zI (rs1 (rT (rT (rP (rsC zI (rs1 zI)))))))))).mono e7 h_p_first)
        have h_p_second := (((rP (rsC zI (rsC zI (rs1 (rT (rT (rP (rsC zI (rs1 zI)))))))))).mono e7 h_p_second)
        have h_p_rows := RLs.mono e7 h_p_rows
        have b5 := Same.trans b5 e7
        have h_p_row := h7
        generalize p_row ++ [y7] = p_row at hm h_p_row
        generalize vs_p_row ++ [w7] = vs_p_row at hs h_p_row
        exact E5.nx p_row _ _ _ _ _ b5 ⟨l_p_row, vs_p_row, some (.int p_left), some (.int p_middle), some (.int p_right), some (.int p_answer), rfl, rfl, h_p_row⟩ (Same.refl _) hs hm.out
      · obtain ⟨l_p_row, vs_p_row, d_6, d_7, d_8, d_9, rfl, rfl, h_p_row⟩ := w_
        have h_p_first := (((rP (rsC zI (rsC zI (rs1 (rT (rT (rP (rsC zI (rs1 zI)))))))))).mono e5 h_p_first)
        have h_p_second := (((rP (rsC zI (rsC zI (rs1 (rT (rT (rP (rsC zI (rs1 zI)))))))))).mono e5 h_p_second)
        have h_p_rows := RLs.mono e5 h_p_rows
        have h_p_row := RLs.mono e15 h_p_row
        have b3 := Same.trans b3 e5
        refine (show (_ : TS) _ ([some v_p_first, some v_p_second, some (.int p_count), some (.ref l_p_rows), some (.int p_state), some (.ref l_p_row), d_6, d_7, d_8, d_9] : L2.St) _ from ?_)
        try dsimp only at hm
        have ng8 := (hs.at 0 rfl).2.1
        have eg8 := same_new (o := HO.lst vs_p_row) ng8
        have hs := hs.give 0 rfl
        have h_p_row : (rK (rP (rsC zI (rs1 zI)))).r K _ (.ref l_p_row) p_row := ⟨l_p_row, vs_p_row, rfl, upd_same, RLs.mono eg8 h_p_row⟩
        have h_p_first := (((rP (rsC zI (rsC zI (rs1 (rT (rT (rP (rsC zI (rs1 zI)))))))))).mono eg8 h_p_first)
        have h_p_second := (((rP (rsC zI (rsC zI (rs1 (rT (rT (rP (rsC zI (rs1 zI)))))))))).mono eg8 h_p_second)
        have h_p_rows := RLs.mono eg8 h_p_rows
        have b3 := Same.trans b3 eg8
        refine w_app (K := K) (i := 3) 0 (xs := p_rows) rfl rfl h_p_rows (e_tupleL (e_KL (e_var (K := K) (i := 5) (R := (rK (rP (rsC zI (rs1 zI))))) (x := p_row) rfl h_p_row))) hs hm (fun y9 w9 G9 H9 e9 hs h9 hm => ?_)
        have h_p_first := (((rP (rsC zI (rsC zI (rs1 (rT (rT (rP (rsC zI (rs1 zI)))))))))).mono e9 h_p_first)
        have h_p_second := (((rP (rsC zI (rsC zI (rs1 (rT (rT (rP (rsC zI (rs1 zI)))))))))).mono e9 h_p_second)
        have h_p_row := (((rK (rP (rsC zI (rs1 zI))))).mono e9 h_p_row)
        have b3 := Same.trans b3 e9
        have h_p_rows := h9
        generalize p_rows ++ [y9] = p_rows at hm h_p_rows
        generalize vs_p_rows ++ [w9] = vs_p_rows at hs h_p_rows
        exact E3.nx p_rows _ _ _ _ _ b3 ⟨l_p_rows, vs_p_rows, some (.int p_state), some (.ref l_p_row), d_6, d_7, d_8, d_9, rfl, rfl, h_p_rows⟩ (Same.refl _) hs hm.out
    · obtain ⟨l_p_rows, vs_p_rows, d_4, d_5, d_6, d_7, d_8, d_9, rfl, rfl, h_p_rows⟩ := w_
      have h_p_first := (((rP (rsC zI (rsC zI (rs1 (rT (rT (rP (rsC zI (rs1 zI)))))))))).mono e3 h_p_first)
      have h_p_second := (((rP (rsC zI (rsC zI (rs1 (rT (rT (rP (rsC zI (rs1 zI)))))))))).mono e3 h_p_second)
      have h_p_rows := RLs.mono e13 h_p_rows
      refine (show (_ : TS) _ ([some v_p_first, some v_p_second, some (.int p_count), some (.ref l_p_rows), d_4, d_5, d_6, d_7, d_8, d_9] : L2.St) _ from ?_)
      try dsimp only at hm
      have ng11 := (hs.at 0 rfl).2.1
      have eg11 := same_new (o := HO.lst vs_p_rows) ng11
      have hs := hs.give 0 rfl
      have h_p_rows : (rK (rT (rP (rsC zI (rs1 zI))))).r K _ (.ref l_p_rows) p_rows := ⟨l_p_rows, vs_p_rows, rfl, upd_same, RLs.mono eg11 h_p_rows⟩
      have h_p_first := (((rP (rsC zI (rsC zI (rs1 (rT (rT (rP (rsC zI (rs1 zI)))))))))).mono eg11 h_p_first)
      have h_p_second := (((rP (rsC zI (rsC zI (rs1 (rT (rT (rP (rsC zI (rs1 zI)))))))))).mono eg11 h_p_second)
      exact w_ret0 (K := K) (e_tup (lnC (lnC ln1)) (a_cons (e_proj (k := 0) pj0 (e_var (K := K) (i := 0) (R := (rP (rsC zI (rsC zI (rs1 (rT (rT (rP (rsC zI (rs1 zI)))))))))) (x := p_first) rfl h_p_first)) (a_cons (e_proj (k := 1) (pjS pj0) (e_var (K := K) (i := 1) (R := (rP (rsC zI (rsC zI (rs1 (rT (rT (rP (rsC zI (rs1 zI)))))))))) (x := p_second) rfl h_p_second)) (a_one (e_tupleL (e_KL (e_var (K := K) (i := 3) (R := (rK (rT (rP (rsC zI (rs1 zI)))))) (x := p_rows) rfl h_p_rows)))))) (by decide)) hs hm fun r v G2 H2 hs2 hr2 hq => hq v G2 H2 hs2.fin hr2

theorem ok_law_drawn {P : Program} {w : World} {K : PySem.W.Frag} {mg : Str → Option Value} {base : Heap} {cl : Nat → Addr} {fa : Addr} {fd : FuncData} (F : Fun K "_law_drawn" "_law_drawn" s_law_drawn fa fd) (T : Txt K mg cl) (C_law_parts : Cal P w K mg base "_law_parts" 1 ["cell", "sizes"] (spP K cl (rsC zI (rs1 (rK zI))) (rK zI) (fun a => m_law_parts (a.1) (a.2)))) (C_law_far : Cal P w K mg base "_law_far" 1 ["script", "k"] (spP K cl (rsC (rL zI) (rs1 zI)) zI (fun a => m_law_far (a.1) (a.2)))) :
    FnOk P w K mg base (L2.CX P w) 2 fa fd ["script", "at", "inputs", "outputs", "states"] (spP K cl (rsC (rL zI) (rsC zI (rsC zI (rsC zI (rs1 zI))))) (rP (rsC zI (rsC zI (rs1 (rT (rT (rP (rsC zI (rs1 zI))))))))) (fun a => m_law_drawn (a.1) (a.2.1) (a.2.2.1) (a.2.2.2.1) (a.2.2.2.2))) := by
  refine F.okX sc_law_drawn (fun vs H Q E h => ?_) (fun cdv A outer s H vs Q E hr h => ?_)
  · obtain ⟨G, a, _, hS, _⟩ := h
    exact (lnC (lnC (lnC (lnC ln1)))) _ _ _ _ hS
  · obtain ⟨G, ⟨p_script, p_at, p_inputs, p_outputs, p_states⟩, hg, hS, hm⟩ := h
    obtain ⟨v_p_script, _, rfl, h_p_script, v_p_at, _, rfl, h_p_at, v_p_inputs, _, rfl, h_p_inputs, v_p_outputs, _, rfl, h_p_outputs, v_p_states, rfl, h_p_states⟩ := hS
    cases (show v_p_at = V.int p_at from h_p_at)
    cases (show v_p_inputs = V.int p_inputs from h_p_inputs)
    cases (show v_p_outputs = V.int p_outputs from h_p_outputs)
    cases (show v_p_states = V.int p_states from h_p_states)
    have tk : Takes (cxOf (L2.CX P w) P w K mg base N_law_drawn "_law_drawn" (defScope s_law_drawn) fa cdv A outer s H E) (fun cls d _ H => E cls d H) := takes_of rfl rfl rfl rfl
    refine ⟨_, (pss_cons (ps_set (i := 5) sc_law_drawn.nd rfl (by first | exact Or.inl rfl | exact Or.inr rfl) (pe_lst pa_nil))
     (pss_cons (ps_for (passes_of rfl) rfl (pi_range1 rfl T.n_range (pa_cons (pv 4) pa_nil)) (pg_name (i := 6) sc_law_drawn.nd rfl (by first | exact Or.inl rfl | exact Or.inr rfl)) (pss_cons (ps_set (i := 7) sc_law_drawn.nd rfl (by first | exact Or.inl rfl | exact Or.inr rfl) (pe_call (E := E) C_law_parts.ok (hr.mono (by decide)) rfl C_law_parts.mgx C_law_parts.kp C_law_parts.bd .nil (passes_call tk (fun _ _ _ _ h => h)) (pa_cons (pe_call (E := E) C_law_far.ok (hr.mono (by decide)) rfl C_law_far.mgx C_law_far.kp C_law_far.bd .nil (passes_call tk (fun _ _ _ _ h => h)) (pa_cons (pv 0) (pa_cons (pe_op op_add (pv 1) (pv 6)) pa_nil))) (pa_cons (pe_op op_rep (pe_lst (pa_cons pe_int (pa_cons pe_int pa_nil))) (pe_op op_shl pe_int (pv 2))) pa_nil))))
     (pss_cons (ps_setLc (i := 8) (own := [("i", 9)]) rfl sc_law_drawn.nd rfl rfl (sw_true rfl rfl rfl (by decide +kernel)) (pi_range1 rfl T.n_range (pa_cons (pe_op op_shl pe_int (pv 2)) pa_nil)) (blkOk_by (own := [("i", 9)]) (N := N_law_drawn) (sc := defScope s_law_drawn) (by decide +kernel)) (fun _ _ _ _ _ => (pg_name (i := 9) sc_law_drawn.nd rfl (by first | exact Or.inl rfl | exact Or.inr rfl))) (fun _ _ _ _ _ => pts_nil) (fun _ _ _ _ _ => (pe_tup (pa_cons (pe_op op_mod (pe_callTy call_int1 (by rfl) T.n_int b_int (pa_cons (pe_ix (r := rIxL K) ix_list (pv 7) (pe_op op_mul pe_int (pv 9)) (fun _ _ => rfl)) pa_nil)) (pv 4)) (pa_cons (pe_op op_mod (pe_callTy call_int1 (by rfl) T.n_int b_int (pa_cons (pe_ix (r := rIxL K) ix_list (pv 7) (pe_op op_add (pe_op op_mul pe_int (pv 9)) pe_int) (fun _ _ => rfl)) pa_nil)) (pe_op op_shl pe_int (pv 3))) pa_nil)))))
     (pss_cons (ps_expr (pe_bm PySem.F.plainAttrs_list PySem.F.slot_list_append PySem.F.type_list_append mt_append (pv 5) (pa_cons (pe_callTy (r := rTu K) call_tuple_of (by rfl) T.n_tuple b_tuple (pa_cons (pv 8) pa_nil)) pa_nil)))
     pss_nil))))
     (pss_cons (ps_ret (pe_tup (pa_cons (pv 2) (pa_cons (pv 3) (pa_cons (pe_callTy (r := rTu K) call_tuple_of (by rfl) T.n_tuple b_tuple (pa_cons (pv 5) pa_nil)) pa_nil)))))
     pss_nil))), ?_⟩
    have hs : Hs ⟨H, G, E, cl⟩ G [] H := Hs.start hg
    have hm := Wp.ofSp (G0 := G) hm
    try dsimp only at hm
    unfold m_law_drawn at hm
    refine (show (_ : TS) _ ([some v_p_script, some (.int p_at), some (.int p_inputs), some (.int p_outputs), some (.int p_states), none, none, none, none, none] : L2.St) _ from ?_)
    refine w_asgN (K := K) (R := (rT (rP (rsC zI (rs1 zI))))) (i := 5) (e_lst l_nil (by decide)) hs hm (fun p_rows l_p_rows vs_p_rows G1 H1 e1 hs h1 hm => ?_)
    have h_p_script := (((rL zI)).mono e1 h_p_script)
    have h_p_rows := h1
    refine (show (_ : TS) _ ([some v_p_script, some (.int p_at), some (.int p_inputs), some (.int p_outputs), some (.int p_states), some (.ref l_p_rows), none, none, none, none] : L2.St) _ from ?_)
    refine w_forM (K := K) (fun (p_rows : (List (List (Int × Int)))) (σ : L2.St) (G : Hp) (O : Own) => ∃ (l_p_rows : Addr) (vs_p_rows : List V) (d_6 : Option V) (d_7 : Option V) (d_8 : Option V), σ = [some v_p_script, some (.int p_at), some (.int p_inputs), some (.int p_outputs), some (.int p_states), some (.ref l_p_rows), d_6, d_7, d_8, none] ∧ O = [(l_p_rows, .lst vs_p_rows)] ∧ RLs (rT (rP (rsC zI (rs1 zI)))) K G vs_p_rows p_rows) (i_rng1 (e_var (K := K) (i := 4) (R := zI) (x := p_states) rfl rfl)) (fun _ _ _ _ _ _ h => nomatch h) (tg_name (i := 6) (R := zI)) hs hm ⟨l_p_rows, vs_p_rows, none, none, none, rfl, rfl, h_p_rows⟩ (fun p_k p_rows σ_ G1_2 G2 O_ H2 vv2 D2 Qb2 e2 w_ e12 hs hv2 E2 hm => ?_) (fun p_rows σ_ G1_2 G2 O_ H2 e2 w_ e12 hs hm => ?_)
    · obtain ⟨l_p_rows, vs_p_rows, d_6, d_7, d_8, rfl, rfl, h_p_rows⟩ := w_
      have h_p_script := (((rL zI)).mono e2 h_p_script)
      have h_p_rows := RLs.mono e12 h_p_rows
      obtain ⟨v_p_k, rfl, h_p_k⟩ := hv2
      cases (show v_p_k = V.int p_k from h_p_k)
      have b2 := Same.refl G2
      refine (show (_ : TS) _ ([some v_p_script, some (.int p_at), some (.int p_inputs), some (.int p_outputs), some (.int p_states), some (.ref l_p_rows), some (.int p_k), d_7, d_8, none] : L2.St) _ from ?_)
      unfold m_law_drawn_b8 at hm
      try dsimp only at hm
      refine w_asg (K := K) (tg_name (i := 7) (R := (rK zI))) (e_call (fm := ⟨H, G, E, cl⟩) (a_cons (e_call (fm := ⟨H, G, E, cl⟩) (a_cons (e_var (K := K) (i := 0) (R := (rL zI)) (x := p_script) rfl h_p_script) (a_one (e_add (e_var (K := K) (i := 1) (R := zI) (x := p_at) rfl rfl) (e_var (K := K) (i := 6) (R := zI) (x := p_k) rfl rfl))))) (a_one (EvN.evK (n_rep (EvN.evK (e_lst (l_cons e_int (l_cons e_int l_nil)) (by decide))) (e_shl e_int (e_var (K := K) (i := 2) (R := zI) (x := p_inputs) rfl rfl))))))) hs hm (fun p_parts vv3 G3 H3 e3 hs hv3 hm => ?_)
      obtain ⟨v_p_parts, rfl, h_p_parts⟩ := hv3
      have h_p_script := (((rL zI)).mono e3 h_p_script)
      have h_p_rows := RLs.mono e3 h_p_rows
      have b2 := Same.trans b2 e3
      refine (show (_ : TS) _ ([some v_p_script, some (.int p_at), some (.int p_inputs), some (.int p_outputs), some (.int p_states), some (.ref l_p_rows), some (.int p_k), some v_p_parts, d_8, none] : L2.St) _ from ?_)
      refine w_asg (K := K) (tg_name (i := 8) (R := (rK (rP (rsC zI (rs1 zI)))))) (EvN.evK (n_lc (S := (rP (rsC zI (rs1 zI)))) (i_rng1 (e_shl e_int (e_var (K := K) (i := 2) (R := zI) (x := p_inputs) rfl rfl))) (fun _ h => nomatch h) (tg_name (i := 9) (R := zI)) (by decide) (fun x4 vs4 G4 e4 hv4 => by
       obtain ⟨v4_p_i, rfl, h4_p_i⟩ := hv4
       exact ⟨t_yes, (e_tup (lnC ln1) (a_cons (e_mod (e_intI (e_ixL (e_KL (e_var (K := K) (i := 7) (R := (rK zI)) (x := p_parts) rfl (((rK zI)).mono e4 h_p_parts))) (e_mul e_int (e_var (K := K) (i := 9) (R := zI) (x := x4) rfl h4_p_i)))) (e_var (K := K) (i := 4) (R := zI) (x := p_states) rfl rfl)) (a_one (e_mod (e_intI (e_ixL (e_KL (e_var (K := K) (i := 7) (R := (rK zI)) (x := p_parts) rfl (((rK zI)).mono e4 h_p_parts))) (e_add (e_mul e_int (e_var (K := K) (i := 9) (R := zI) (x := x4) rfl h4_p_i)) e_int))) (e_shl e_int (e_var (K := K) (i := 3) (R := zI) (x := p_outputs) rfl rfl))))) (by decide))⟩))) hs hm (fun p_row vv5 G5 H5 e5 hs hv5 hm => ?_)
      obtain ⟨v_p_row, rfl, h_p_row⟩ := hv5
      have h_p_script := (((rL zI)).mono e5 h_p_script)
      have h_p_rows := RLs.mono e5 h_p_rows
      have h_p_parts := (((rK zI)).mono e5 h_p_parts)
      have b2 := Same.trans b2 e5
      refine (show (_ : TS) _ ([some v_p_script, some (.int p_at), some (.int p_inputs), some (.int p_outputs), some (.int p_states), some (.ref l_p_rows), some (.int p_k), some v_p_parts, some v_p_row, none] : L2.St) _ from ?_)
      refine w_app (K := K) (i := 5) 0 (xs := p_rows) rfl rfl h_p_rows (e_tupleL (e_KL (e_var (K := K) (i := 8) (R := (rK (rP (rsC zI (rs1 zI))))) (x := p_row) rfl h_p_row))) hs hm (fun y6 w6 G6 H6 e6 hs h6 hm => ?_)
      have h_p_script := (((rL zI)).mono e6 h_p_script)
      have h_p_parts := (((rK zI)).mono e6 h_p_parts)
      have h_p_row := (((rK (rP (rsC zI (rs1 zI))))).mono e6 h_p_row)
      have b2 := Same.trans b2 e6
      have h_p_rows := h6
      generalize p_rows ++ [y6] = p_rows at hm h_p_rows
      generalize vs_p_rows ++ [w6] = vs_p_rows at hs h_p_rows
      exact E2.nx p_rows _ _ _ _ _ b2 ⟨l_p_rows, vs_p_rows, some (.int p_k), some v_p_parts, some v_p_row, rfl, rfl, h_p_rows⟩ (Same.refl _) hs hm.out
    · obtain ⟨l_p_rows, vs_p_rows, d_6, d_7, d_8, rfl, rfl, h_p_rows⟩ := w_
      have h_p_script := (((rL zI)).mono e2 h_p_script)
      have h_p_rows := RLs.mono e12 h_p_rows
      refine (show (_ : TS) _ ([some v_p_script, some (.int p_at), some (.int p_inputs), some (.int p_outputs), some (.int p_states), some (.ref l_p_rows), d_6, d_7, d_8, none] : L2.St) _ from ?_)
      try dsimp only at hm
      have ng7 := (hs.at 0 rfl).2.1
      have eg7 := same_new (o := HO.lst vs_p_rows) ng7
      have hs := hs.give 0 rfl
      have h_p_rows : (rK (rT (rP (rsC zI (rs1 zI))))).r K _ (.ref l_p_rows) p_rows := ⟨l_p_rows, vs_p_rows, rfl, upd_same, RLs.mono eg7 h_p_rows⟩
      have h_p_script := (((rL zI)).mono eg7 h_p_script)
      exact w_ret0 (K := K) (e_tup (lnC (lnC ln1)) (a_cons (e_var (K := K) (i := 2) (R := zI) (x := p_inputs) rfl rfl) (a_cons (e_var (K := K) (i := 3) (R := zI) (x := p_outputs) rfl rfl) (a_one (e_tupleL (e_KL (e_var (K := K) (i := 5) (R := (rK (rT (rP (rsC zI (rs1 zI)))))) (x := p_rows) rfl h_p_rows)))))) (by decide)) hs hm fun r v G2 H2 hs2 hr2 hq => hq v G2 H2 hs2.fin hr2

theorem ok_law_padded {P : Program} {w : World} {K : PySem.W.Frag} {mg : Str → Option Value} {base : Heap} {cl : Nat → Addr} {fa : Addr} {fd : FuncData} (F : Fun K "_law_padded" "_law_padded" s_law_padded fa fd) (T : Txt K mg cl)  :
    FnOk P w K mg base (L2.CX P w) 1 fa fd ["netlist", "count"] (spP K cl (rsC (rP (rsC (rT rS) (rsC (rT rS) (rs1 (rT (rP (rsC rS (rsC rS (rs1 (rT rS)))))))))) (rs1 zI)) (rP (rsC (rT rS) (rsC (rT rS) (rs1 (rT (rP (rsC rS (rsC rS (rs1 (rT rS)))))))))) (fun a => m_law_padded (a.1) (a.2))) := by
  refine F.okX sc_law_padded (fun vs H Q E h => ?_) (fun cdv A outer s H vs Q E hr h => ?_)
  · obtain ⟨G, a, _, hS, _⟩ := h
    exact (lnC ln1) _ _ _ _ hS
  · obtain ⟨G, ⟨p_netlist, p_count⟩, hg, hS, hm⟩ := h
    obtain ⟨v_p_netlist, _, rfl, h_p_netlist, v_p_count, rfl, h_p_count⟩ := hS
    cases (show v_p_count = V.int p_count from h_p_count)
    refine ⟨_, (pss_cons (ps_set (i := 2) sc_law_padded.nd rfl (by first | exact Or.inl rfl | exact Or.inr rfl) (pe_callTy (r := rLi K) call_list_of (by rfl) T.n_list b_list (pa_cons (pe_ix (r := rIxT K) ix_tup (pv 0) pe_int (fun _ _ => rfl)) pa_nil)))
     (pss_cons (ps_set (i := 3) sc_law_padded.nd rfl (by first | exact Or.inl rfl | exact Or.inr rfl) (pe_ix (r := rIxT K) ix_tup (pe_ix (r := rIxT K) ix_tup (pv 0) pe_int (fun _ _ => rfl)) pe_int (fun _ _ => rfl)))
     (pss_cons (ps_for (passes_of rfl) rfl (pi_range1 rfl T.n_range (pa_cons (pv 1) pa_nil)) (pg_name (i := 4) sc_law_padded.nd rfl (by first | exact Or.inl rfl | exact Or.inr rfl)) (pss_cons (ps_expr (pe_bm PySem.F.plainAttrs_list PySem.F.slot_list_append PySem.F.type_list_append mt_append (pv 2) (pa_cons (pe_tup (pa_cons (pe_op (r := rAddS) op_add_str pe_str (pe_callTy (r := rStrI) call_str_int (by rfl) T.n_str b_str (pa_cons (pv 4) pa_nil))) (pa_cons pe_str (pa_cons (pe_tup (pa_cons (pv 3) pa_nil)) pa_nil)))) pa_nil)))
     (pss_cons (ps_set (i := 3) sc_law_padded.nd rfl (by first | exact Or.inl rfl | exact Or.inr rfl) (pe_op (r := rAddS) op_add_str pe_str (pe_callTy (r := rStrI) call_str_int (by rfl) T.n_str b_str (pa_cons (pv 4) pa_nil))))
     pss_nil)))
     (pss_cons (ps_ret (pe_tup (pa_cons (pe_ix (r := rIxT K) ix_tup (pv 0) pe_int (fun _ _ => rfl)) (pa_cons (pe_op (r := rCatA K) op_catA (pe_tup (pa_cons (pv 3) pa_nil)) (pe_slice (r := rSlA K) sl_tupA (pe_ix (r := rIxT K) ix_tup (pv 0) pe_int (fun _ _ => rfl)) (po_some pe_int) po_none)) (pa_cons (pe_callTy (r := rTu K) call_tuple_of (by rfl) T.n_tuple b_tuple (pa_cons (pv 2) pa_nil)) pa_nil)))))
     pss_nil)))), ?_⟩
    have hs : Hs ⟨H, G, E, cl⟩ G [] H := Hs.start hg
    have hm := Wp.ofSp (G0 := G) hm
    try dsimp only at hm
    unfold m_law_padded at hm
    refine (show (_ : TS) _ ([some v_p_netlist, some (.int p_count), none, none, none] : L2.St) _ from ?_)
    refine w_asgN (K := K) (R := (rP (rsC rS (rsC rS (rs1 (rT rS)))))) (i := 2) (n_list sq_T (e_proj (k := 2) (pjS (pjS pj1)) (e_var (K := K) (i := 0) (R := (rP (rsC (rT rS) (rsC (rT rS) (rs1 (rT (rP (rsC rS (rsC rS (rs1 (rT rS))))))))))) (x := p_netlist) rfl h_p_netlist))) hs hm (fun p_gates l_p_gates vs_p_gates G1 H1 e1 hs h1 hm => ?_)
    have h_p_netlist := (((rP (rsC (rT rS) (rsC (rT rS) (rs1 (rT (rP (rsC rS (rsC rS (rs1 (rT rS))))))))))).mono e1 h_p_netlist)
    have h_p_gates := h1
    refine (show (_ : TS) _ ([some v_p_netlist, some (.int p_count), some (.ref l_p_gates), none, none] : L2.St) _ from ?_)
    refine w_asg (K := K) (tg_name (i := 3) (R := rS)) (e_ixT (e_proj (k := 1) (pjS pj0) (e_var (K := K) (i := 0) (R := (rP (rsC (rT rS) (rsC (rT rS) (rs1 (rT (rP (rsC rS (rsC rS (rs1 (rT rS))))))))))) (x := p_netlist) rfl h_p_netlist)) e_int) hs hm (fun p_net vv2 G2 H2 e2 hs hv2 hm => ?_)
    obtain ⟨v_p_net, rfl, h_p_net⟩ := hv2
    cases (show v_p_net = V.str p_net from h_p_net)
    have h_p_netlist := (((rP (rsC (rT rS) (rsC (rT rS) (rs1 (rT (rP (rsC rS (rsC rS (rs1 (rT rS))))))))))).mono e2 h_p_netlist)
    have h_p_gates := RLs.mono e2 h_p_gates
    refine (show (_ : TS) _ ([some v_p_netlist, some (.int p_count), some (.ref l_p_gates), some (.str p_net), none] : L2.St) _ from ?_)
    refine w_forM (K := K) (fun (s : (List (Str × Str × (List Str))) × Str) (σ : L2.St) (G : Hp) (O : Own) => match s with | (p_gates, p_net) => ∃ (l_p_gates : Addr) (vs_p_gates : List V) (d_4 : Option V), σ = [some v_p_netlist, some (.int p_count), some (.ref l_p_gates), some (.str p_net), d_4] ∧ O = [(l_p_gates, .lst vs_p_gates)] ∧ RLs (rP (rsC rS (rsC rS (rs1 (rT rS))))) K G vs_p_gates p_gates) (i_rng1 (e_var (K := K) (i := 1) (R := zI) (x := p_count) rfl rfl)) (fun _ _ _ _ _ _ h => nomatch h) (tg_name (i := 4) (R := zI)) hs hm ⟨l_p_gates, vs_p_gates, none, rfl, rfl, h_p_gates⟩ (fun p_k s_ σ_ G1_3 G3 O_ H3 vv3 D3 Qb3 e3 w_ e13 hs hv3 E3 hm => ?_) (fun s_ σ_ G1_3 G3 O_ H3 e3 w_ e13 hs hm => ?_)
    · obtain ⟨p_gates, p_net⟩ := s_
      obtain ⟨l_p_gates, vs_p_gates, d_4, rfl, rfl, h_p_gates⟩ := w_
      have h_p_netlist := (((rP (rsC (rT rS) (rsC (rT rS) (rs1 (rT (rP (rsC rS (rsC rS (rs1 (rT rS))))))))))).mono e3 h_p_netlist)
      have h_p_gates := RLs.mono e13 h_p_gates
      obtain ⟨v_p_k, rfl, h_p_k⟩ := hv3
      cases (show v_p_k = V.int p_k from h_p_k)
      have b3 := Same.refl G3
      refine (show (_ : TS) _ ([some v_p_netlist, some (.int p_count), some (.ref l_p_gates), some (.str p_net), some (.int p_k)] : L2.St) _ from ?_)
      unfold m_law_padded_b7 at hm
      try dsimp only at hm
      refine w_app (K := K) (i := 2) 0 (xs := p_gates) rfl rfl h_p_gates (e_tup (lnC (lnC ln1)) (a_cons (e_addS e_str (e_strI (e_var (K := K) (i := 4) (R := zI) (x := p_k) rfl rfl))) (a_cons e_str (a_one (e_tupT (l_cons (e_var (K := K) (i := 3) (R := rS) (x := p_net) rfl rfl) l_nil) (by decide))))) (by decide)) hs hm (fun y4 w4 G4 H4 e4 hs h4 hm => ?_)
      have h_p_netlist := (((rP (rsC (rT rS) (rsC (rT rS) (rs1 (rT (rP (rsC rS (rsC rS (rs1 (rT rS))))))))))).mono e4 h_p_netlist)
      have b3 := Same.trans b3 e4
      have h_p_gates := h4
      generalize p_gates ++ [y4] = p_gates at hm h_p_gates
      generalize vs_p_gates ++ [w4] = vs_p_gates at hs h_p_gates
      refine w_asg (K := K) (tg_name (i := 3) (R := rS)) (e_addS e_str (e_strI (e_var (K := K) (i := 4) (R := zI) (x := p_k) rfl rfl))) hs hm (fun p_net vv5 G5 H5 e5 hs hv5 hm => ?_)
      obtain ⟨v_p_net, rfl, h_p_net⟩ := hv5
      cases (show v_p_net = V.str p_net from h_p_net)
      have h_p_netlist := (((rP (rsC (rT rS) (rsC (rT rS) (rs1 (rT (rP (rsC rS (rsC rS (rs1 (rT rS))))))))))).mono e5 h_p_netlist)
      have h_p_gates := RLs.mono e5 h_p_gates
      have b3 := Same.trans b3 e5
      refine (show (_ : TS) _ ([some v_p_netlist, some (.int p_count), some (.ref l_p_gates), some (.str p_net), some (.int p_k)] : L2.St) _ from ?_)
      exact E3.nx (p_gates, p_net) _ _ _ _ _ b3 ⟨l_p_gates, vs_p_gates, some (.int p_k), rfl, rfl, h_p_gates⟩ (Same.refl _) hs hm.out
    · obtain ⟨p_gates, p_net⟩ := s_
      obtain ⟨l_p_gates, vs_p_gates, d_4, rfl, rfl, h_p_gates⟩ := w_
      have h_p_netlist := (((rP (rsC (rT rS) (rsC (rT rS) (rs1 (rT (rP (rsC rS (rsC rS (rs1 (rT rS))))))))))).mono e3 h_p_netlist)
      have h_p_gates := RLs.mono e13 h_p_gates
      refine (show (_ : TS) _ ([some v_p_netlist, some (.int p_count), some (.ref l_p_gates), some (.str p_net), d_4] : L2.St) _ from ?_)
      try dsimp only at hm
      have ng6 := (hs.at 0 rfl).2.1
      have eg6 := same_new (o := HO.lst vs_p_gates) ng6
      have hs := hs.give 0 rfl
      have h_p_gates : (rK (rP (rsC rS (rsC rS (rs1 (rT rS)))))).r K _ (.ref l_p_gates) p_gates := ⟨l_p_gates, vs_p_gates, rfl, upd_same, RLs.mono eg6 h_p_gates⟩
      have h_p_netlist := (((rP (rsC (rT rS) (rsC (rT rS) (rs1 (rT (rP (rsC rS (rsC rS (rs1 (rT rS))))))))))).mono eg6 h_p_netlist)
      exact w_ret0 (K := K) (e_tup (lnC (lnC ln1)) (a_cons (e_proj (k := 0) pj0 (e_var (K := K) (i := 0) (R := (rP (rsC (rT rS) (rsC (rT rS) (rs1 (rT (rP (rsC rS (rsC rS (rs1 (rT rS))))))))))) (x := p_netlist) rfl h_p_netlist)) (a_cons (e_catT (e_tupT (l_cons (e_var (K := K) (i := 3) (R := rS) (x := p_net) rfl rfl) l_nil) (by decide)) (e_sliceT (e_proj (k := 1) (pjS pj0) (e_var (K := K) (i := 0) (R := (rP (rsC (rT rS) (rsC (rT rS) (rs1 (rT (rP (rsC rS (rsC rS (rs1 (rT rS))))))))))) (x := p_netlist) rfl h_p_netlist)) (o_some (K := K) e_int) o_none)) (a_one (e_tupleL (e_KL (e_var (K := K) (i := 2) (R := (rK (rP (rsC rS (rsC rS (rs1 (rT rS))))))) (x := p_gates) rfl h_p_gates)))))) (by decide)) hs hm fun r v G2 H2 hs2 hr2 hq => hq v G2 H2 hs2.fin hr2

theorem ok_law_renamed {P : Program} {w : World} {K : PySem.W.Frag} {mg : Str → Option Value} {base : Heap} {cl : Nat → Addr} {fa : Addr} {fd : FuncData} (F : Fun K "_law_renamed" "_law_renamed" s_law_renamed fa fd) (T : Txt K mg cl)  :
    FnOk P w K mg base (L2.CX P w) 1 fa fd ["gates", "names"] (spP K cl (rsC (rT (rP (rsC rS (rsC rS (rs1 (rT rS)))))) (rs1 (rDk keS rS))) (rK (rP (rsC rS (rsC rS (rs1 (rT rS)))))) (fun a => m_law_renamed (a.1) (a.2))) := by
  refine F.okX sc_law_renamed (fun vs H Q E h => ?_) (fun cdv A outer s H vs Q E hr h => ?_)
  · obtain ⟨G, a, _, hS, _⟩ := h
    exact (lnC ln1) _ _ _ _ hS
  · obtain ⟨G, ⟨p_gates, p_names⟩, hg, hS, hm⟩ := h
    obtain ⟨v_p_gates, _, rfl, h_p_gates, v_p_names, rfl, h_p_names⟩ := hS
    refine ⟨_, (pss_cons (ps_ret (pe_lc (own := [("gate", 2)]) rfl sc_law_renamed.nd (pi_tup (pv 0)) (blkOk_by (own := [("gate", 2)]) (N := N_law_renamed) (sc := defScope s_law_renamed) (by decide +kernel)) (fun _ _ _ _ _ => (pg_name (i := 2) sc_law_renamed.nd rfl (by first | exact Or.inl rfl | exact Or.inr rfl))) (fun _ _ _ _ _ => pts_nil) (fun _ _ _ _ _ => (pe_tup (pa_cons (pe_dget (hu_of hr) (pv 1) (pe_ix (r := rIxT K) ix_tup (pv 2) pe_int (fun _ _ => rfl)) (fun _ _ => rfl)) (pa_cons (pe_ix (r := rIxT K) ix_tup (pv 2) pe_int (fun _ _ => rfl)) (pa_cons (pe_callTy (r := rTu K) call_tuple_of (by rfl) T.n_tuple b_tuple (pa_cons (pe_lc (own := [("net", 3)]) rfl sc_law_renamed.nd (show PI _ _ _ (iTup K _) from (pi_tup (pe_ix (r := rIxT K) ix_tup (pv 2) pe_int (fun _ _ => rfl)))) (blkOk_by (own := [("net", 3)]) (N := N_law_renamed) (by first | rfl | decide +kernel)) (fun _ _ _ _ _ => (pg_name (i := 3) sc_law_renamed.nd rfl (by first | exact Or.inl rfl | exact Or.inr rfl))) (fun _ _ _ _ _ => pts_nil) (fun _ _ _ _ _ => (pe_dget (hu_of hr) (pv 1) (pv 3) (fun _ _ => rfl)))) pa_nil)) pa_nil)))))))
     pss_nil), ?_⟩
    have hs : Hs ⟨H, G, E, cl⟩ G [] H := Hs.start hg
    have hm := Wp.ofSp (G0 := G) hm
    try dsimp only at hm
    unfold m_law_renamed at hm
    refine (show (_ : TS) _ ([some v_p_gates, some v_p_names, none, none] : L2.St) _ from ?_)
    exact w_ret0 (K := K) (EvN.evK (n_lc (S := (rP (rsC rS (rsC rS (rs1 (rT rS)))))) (i_tup (e_var (K := K) (i := 0) (R := (rT (rP (rsC rS (rsC rS (rs1 (rT rS))))))) (x := p_gates) rfl h_p_gates)) (fun _ h => nomatch h) (tg_name (i := 2) (R := (rP (rsC rS (rsC rS (rs1 (rT rS))))))) (by decide) (fun x1 vs1 G1 e1 hv1 => by
     obtain ⟨v1_p_gate, rfl, h1_p_gate⟩ := hv1
     exact ⟨t_yes, (e_tup (lnC (lnC ln1)) (a_cons (e_dgetG (k := keS) (e_var (K := K) (i := 1) (R := (rDk keS rS)) (x := p_names) rfl (((rDk keS rS)).mono e1 h_p_names)) (e_proj (k := 0) pj0 (e_var (K := K) (i := 2) (R := (rP (rsC rS (rsC rS (rs1 (rT rS)))))) (x := x1) rfl h1_p_gate))) (a_cons (e_proj (k := 1) (pjS pj0) (e_var (K := K) (i := 2) (R := (rP (rsC rS (rsC rS (rs1 (rT rS)))))) (x := x1) rfl h1_p_gate)) (a_one (e_tupleL (e_KL (EvN.evK (n_lc (S := rS) (i_tup (e_proj (k := 2) (pjS (pjS pj1)) (e_var (K := K) (i := 2) (R := (rP (rsC rS (rsC rS (rs1 (rT rS)))))) (x := x1) rfl h1_p_gate))) (fun _ h => nomatch h) (tg_name (i := 3) (R := rS)) (by decide) (fun x2 vs2 G2 e2 hv2 => by
     obtain ⟨v2_p_net, rfl, h2_p_net⟩ := hv2
     exact ⟨t_yes, (e_dgetG (k := keS) (e_var (K := K) (i := 1) (R := (rDk keS rS)) (x := p_names) rfl (((rDk keS rS)).mono e2 (((rDk keS rS)).mono e1 h_p_names))) (e_var (K := K) (i := 3) (R := rS) (x := x2) rfl h2_p_net))⟩)))))))) (by decide))⟩))) hs hm fun r v G2 H2 hs2 hr2 hq => hq v G2 H2 hs2.fin hr2

theorem ok_law_joined {P : Program} {w : World} {K : PySem.W.Frag} {mg : Str → Option Value} {base : Heap} {cl : Nat → Addr} {fa : Addr} {fd : FuncData} (F : Fun K "_law_joined" "_law_joined" s_law_joined fa fd) (T : Txt K mg cl) (C_law_renamed : Cal P w K mg base "_law_renamed" 1 ["gates", "names"] (spP K cl (rsC (rT (rP (rsC rS (rsC rS (rs1 (rT rS)))))) (rs1 (rDk keS rS))) (rK (rP (rsC rS (rsC rS (rs1 (rT rS)))))) (fun a => m_law_renamed (a.1) (a.2)))) :
    FnOk P w K mg base (L2.CX P w) 2 fa fd ["first", "second"] (spP K cl (rsC (rP (rsC (rT rS) (rsC (rT rS) (rs1 (rT (rP (rsC rS (rsC rS (rs1 (rT rS)))))))))) (rs1 (rP (rsC (rT rS) (rsC (rT rS) (rs1 (rT (rP (rsC rS (rsC rS (rs1 (rT rS)))))))))))) (rP (rsC (rT rS) (rsC (rT rS) (rs1 (rT (rP (rsC rS (rsC rS (rs1 (rT rS)))))))))) (fun a => m_law_joined (a.1) (a.2))) := by
  refine F.okX sc_law_joined (fun vs H Q E h => ?_) (fun cdv A outer s H vs Q E hr h => ?_)
  · obtain ⟨G, a, _, hS, _⟩ := h
    exact (lnC ln1) _ _ _ _ hS
  · obtain ⟨G, ⟨p_first, p_second⟩, hg, hS, hm⟩ := h
    obtain ⟨v_p_first, _, rfl, h_p_first, v_p_second, rfl, h_p_second⟩ := hS
    have tk : Takes (cxOf (L2.CX P w) P w K mg base N_law_joined "_law_joined" (defScope s_law_joined) fa cdv A outer s H E) (fun cls d _ H => E cls d H) := takes_of rfl rfl rfl rfl
    refine ⟨_, (pss_cons (ps_set (i := 2) sc_law_joined.nd rfl (by first | exact Or.inl rfl | exact Or.inr rfl) pe_dnewK)
     (pss_cons (ps_for (passes_of rfl) rfl (pi_list (pe_op op_cat (pe_callTy (r := rLi K) call_list_of (by rfl) T.n_list b_list (pa_cons (pe_ix (r := rIxT K) ix_tup (pv 0) pe_int (fun _ _ => rfl)) pa_nil)) (pe_lc (own := [("gate", 7)]) rfl sc_law_joined.nd (pi_tup (pe_ix (r := rIxT K) ix_tup (pv 0) pe_int (fun _ _ => rfl))) (blkOk_by (own := [("gate", 7)]) (N := N_law_joined) (sc := defScope s_law_joined) (by decide +kernel)) (fun _ _ _ _ _ => (pg_name (i := 7) sc_law_joined.nd rfl (by first | exact Or.inl rfl | exact Or.inr rfl))) (fun _ _ _ _ _ => pts_nil) (fun _ _ _ _ _ => (pe_ix (r := rIxT K) ix_tup (pv 7) pe_int (fun _ _ => rfl)))))) (pg_name (i := 3) sc_law_joined.nd rfl (by first | exact Or.inl rfl | exact Or.inr rfl)) (pss_cons (ps_dput (hu_of hr) (pv 2) (pv 3) (pe_op (r := rAddS) op_add_str pe_str (pe_callTy (r := rStrI) call_str_int (by rfl) T.n_str b_str (pa_cons (pe_callB call_lenD (by rfl) T.n_len b_len (pa_cons (pv 2) pa_nil)) pa_nil))) rfl)
     pss_nil))
     (pss_cons (ps_set (i := 4) sc_law_joined.nd rfl (by first | exact Or.inl rfl | exact Or.inr rfl) pe_dnewK)
     (pss_cons (ps_for (passes_of rfl) rfl (pi_range1 rfl T.n_range (pa_cons (pe_callB (r := Mw.rLen K) call_len (by rfl) T.n_len b_len (pa_cons (pe_ix (r := rIxT K) ix_tup (pv 1) pe_int (fun _ _ => rfl)) pa_nil)) pa_nil)) (pg_name (i := 5) sc_law_joined.nd rfl (by first | exact Or.inl rfl | exact Or.inr rfl)) (pss_cons (ps_dput (hu_of hr) (pv 4) (pe_ix (r := rIxT K) ix_tup (pe_ix (r := rIxT K) ix_tup (pv 1) pe_int (fun _ _ => rfl)) (pv 5) (fun _ _ => rfl)) (pe_dget (hu_of hr) (pv 2) (pe_ix (r := rIxT K) ix_tup (pe_ix (r := rIxT K) ix_tup (pv 0) pe_int (fun _ _ => rfl)) (pv 5) (fun _ _ => rfl)) (fun _ _ => rfl)) rfl)
     pss_nil))
     (pss_cons (ps_for (passes_of rfl) rfl (pi_range1 rfl T.n_range (pa_cons (pe_callB (r := Mw.rLen K) call_len (by rfl) T.n_len b_len (pa_cons (pe_ix (r := rIxT K) ix_tup (pv 1) pe_int (fun _ _ => rfl)) pa_nil)) pa_nil)) (pg_name (i := 5) sc_law_joined.nd rfl (by first | exact Or.inl rfl | exact Or.inr rfl)) (pss_cons (ps_dput (hu_of hr) (pv 4) (pe_ix (r := rIxT K) ix_tup (pe_ix (r := rIxT K) ix_tup (pe_ix (r := rIxT K) ix_tup (pv 1) pe_int (fun _ _ => rfl)) (pv 5) (fun _ _ => rfl)) pe_int (fun _ _ => rfl)) (pe_op (r := rAddS) op_add_str pe_str (pe_callTy (r := rStrI) call_str_int (by rfl) T.n_str b_str (pa_cons (pv 5) pa_nil))) rfl)
     pss_nil))
     (pss_cons (ps_set (i := 6) sc_law_joined.nd rfl (by first | exact Or.inl rfl | exact Or.inr rfl) (pe_op op_cat (pe_call (E := E) C_law_renamed.ok (hr.mono (by decide)) rfl C_law_renamed.mgx C_law_renamed.kp C_law_renamed.bd .nil (passes_call tk (fun _ _ _ _ h => h)) (pa_cons (pe_ix (r := rIxT K) ix_tup (pv 0) pe_int (fun _ _ => rfl)) (pa_cons (pv 2) pa_nil))) (pe_call (E := E) C_law_renamed.ok (hr.mono (by decide)) rfl C_law_renamed.mgx C_law_renamed.kp C_law_renamed.bd .nil (passes_call tk (fun _ _ _ _ h => h)) (pa_cons (pe_ix (r := rIxT K) ix_tup (pv 1) pe_int (fun _ _ => rfl)) (pa_cons (pv 4) pa_nil)))))
     (pss_cons (ps_ret (pe_tup (pa_cons (pe_callTy (r := rTu K) call_tuple_of (by rfl) T.n_tuple b_tuple (pa_cons (pe_lc (own := [("net", 3)]) rfl sc_law_joined.nd (pi_tup (pe_ix (r := rIxT K) ix_tup (pv 0) pe_int (fun _ _ => rfl))) (blkOk_by (own := [("net", 3)]) (N := N_law_joined) (sc := defScope s_law_joined) (by decide +kernel)) (fun _ _ _ _ _ => (pg_name (i := 3) sc_law_joined.nd rfl (by first | exact Or.inl rfl | exact Or.inr rfl))) (fun _ _ _ _ _ => pts_nil) (fun _ _ _ _ _ => (pe_dget (hu_of hr) (pv 2) (pv 3) (fun _ _ => rfl)))) pa_nil)) (pa_cons (pe_callTy (r := rTu K) call_tuple_of (by rfl) T.n_tuple b_tuple (pa_cons (pe_lc (own := [("net", 3)]) rfl sc_law_joined.nd (pi_tup (pe_ix (r := rIxT K) ix_tup (pv 1) pe_int (fun _ _ => rfl))) (blkOk_by (own := [("net", 3)]) (N := N_law_joined) (sc := defScope s_law_joined) (by decide +kernel)) (fun _ _ _ _ _ => (pg_name (i := 3) sc_law_joined.nd rfl (by first | exact Or.inl rfl | exact Or.inr rfl))) (fun _ _ _ _ _ => pts_nil) (fun _ _ _ _ _ => (pe_dget (hu_of hr) (pv 4) (pv 3) (fun _ _ => rfl)))) pa_nil)) (pa_cons (pe_callTy (r := rTu K) call_tuple_of (by rfl) T.n_tuple b_tuple (pa_cons (pv 6) pa_nil)) pa_nil)))))
     pss_nil))))))), ?_⟩
    have hs : Hs ⟨H, G, E, cl⟩ G [] H := Hs.start hg
    have hm := Wp.ofSp (G0 := G) hm
    try dsimp only at hm
    unfold m_law_joined at hm
    refine (show (_ : TS) _ ([some v_p_first, some v_p_second, none, none, none, none, none, none] : L2.St) _ from ?_)
    refine w_asgD (K := K) (k := keS) (R := rS) (i := 2) d_new hs hm (fun p_names l_p_names vs_p_names G1 H1 e1 hs h1 hm => ?_)
    have h_p_first := (((rP (rsC (rT rS) (rsC (rT rS) (rs1 (rT (rP (rsC rS (rsC rS (rs1 (rT rS))))))))))).mono e1 h_p_first)
    have h_p_second := (((rP (rsC (rT rS) (rsC (rT rS) (rs1 (rT (rP (rsC rS (rsC rS (rs1 (rT rS))))))))))).mono e1 h_p_second)
    have h_p_names := h1
    refine (show (_ : TS) _ ([some v_p_first, some v_p_second, some (.ref l_p_names), none, none, none, none, none] : L2.St) _ from ?_)
    refine w_forM (K := K) (fun (p_names : (List (Str × Str))) (σ : L2.St) (G : Hp) (O : Own) => ∃ (l_p_names : Addr) (vs_p_names : List (Key × V)) (d_3 : Option V), σ = [some v_p_first, some v_p_second, some (.ref l_p_names), d_3, none, none, none, none] ∧ O = [(l_p_names, .dK vs_p_names)] ∧ RKs keS rS K G vs_p_names p_names) (i_list (e_KL (EvN.evK (n_cat (EvN.evK (n_list sq_T (e_proj (k := 0) pj0 (e_var (K := K) (i := 0) (R := (rP (rsC (rT rS) (rsC (rT rS) (rs1 (rT (rP (rsC rS (rsC rS (rs1 (rT rS))))))))))) (x := p_first) rfl h_p_first)))) (EvN.evK (n_lc (S := rS) (i_tup (e_proj (k := 2) (pjS (pjS pj1)) (e_var (K := K) (i := 0) (R := (rP (rsC (rT rS) (rsC (rT rS) (rs1 (rT (rP (rsC rS (rsC rS (rs1 (rT rS))))))))))) (x := p_first) rfl h_p_first))) (fun _ h => nomatch h) (tg_name (i := 7) (R := (rP (rsC rS (rsC rS (rs1 (rT rS))))))) (by decide) (fun x2 vs2 G2 e2 hv2 => by
     obtain ⟨v2_p_gate, rfl, h2_p_gate⟩ := hv2
     exact ⟨t_yes, (e_proj (k := 0) pj0 (e_var (K := K) (i := 7) (R := (rP (rsC rS (rsC rS (rs1 (rT rS)))))) (x := x2) rfl h2_p_gate))⟩))))))) (fun _ _ _ _ _ _ h => nomatch h) (tg_name (i := 3) (R := rS)) hs hm ⟨l_p_names, vs_p_names, none, rfl, rfl, h_p_names⟩ (fun p_net p_names σ_ G1_3 G3 O_ H3 vv3 D3 Qb3 e3 w_ e13 hs hv3 E3 hm => ?_) (fun p_names σ_ G1_3 G3 O_ H3 e3 w_ e13 hs hm => ?_)
    · obtain ⟨l_p_names, vs_p_names, d_3, rfl, rfl, h_p_names⟩ := w_
      have h_p_first := (((rP (rsC (rT rS) (rsC (rT rS) (rs1 (rT (rP (rsC rS (rsC rS (rs1 (rT rS))))))))))).mono e3 h_p_first)
      have h_p_second := (((rP (rsC (rT rS) (rsC (rT rS) (rs1 (rT (rP (rsC rS (rsC rS (rs1 (rT rS))))))))))).mono e3 h_p_second)
      have h_p_names := RKs.mono e13 h_p_names
      obtain ⟨v_p_net, rfl, h_p_net⟩ := hv3
      cases (show v_p_net = V.str p_net from h_p_net)
      have b3 := Same.refl G3
      refine (show (_ : TS) _ ([some v_p_first, some v_p_second, some (.ref l_p_names), some (.str p_net), none, none, none, none] : L2.St) _ from ?_)
      unfold m_law_joined_b17 at hm
      try dsimp only at hm
      refine w_dput (K := K) (k := keS) (R := rS) (i := 2) 0 (xs := p_names) rfl rfl h_p_names (e_addS e_str (e_strI (e_lenD (i := 2) (l := l_p_names) rfl (List.mem_of_getElem? (i := 0) rfl) h_p_names))) (e_var (K := K) (i := 3) (R := rS) (x := p_net) rfl rfl) hs hm (fun p_names vs_p_names G4 H4 e4 hs h4 hm => ?_)
      have h_p_first := (((rP (rsC (rT rS) (rsC (rT rS) (rs1 (rT (rP (rsC rS (rsC rS (rs1 (rT rS))))))))))).mono e4 h_p_first)
      have h_p_second := (((rP (rsC (rT rS) (rsC (rT rS) (rs1 (rT (rP (rsC rS (rsC rS (rs1 (rT rS))))))))))).mono e4 h_p_second)
      have b3 := Same.trans b3 e4
      have h_p_names := h4
      exact E3.nx p_names _ _ _ _ _ b3 ⟨l_p_names, vs_p_names, some (.str p_net), rfl, rfl, h_p_names⟩ (Same.refl _) hs hm.out
    · obtain ⟨l_p_names, vs_p_names, d_3, rfl, rfl, h_p_names⟩ := w_
      have h_p_first := (((rP (rsC (rT rS) (rsC (rT rS) (rs1 (rT (rP (rsC rS (rsC rS (rs1 (rT rS))))))))))).mono e3 h_p_first)
      have h_p_second := (((rP (rsC (rT rS) (rsC (rT rS) (rs1 (rT (rP (rsC rS (rsC rS (rs1 (rT rS))))))))))).mono e3 h_p_second)
      have h_p_names := RKs.mono e13 h_p_names
      refine (show (_ : TS) _ ([some v_p_first, some v_p_second, some (.ref l_p_names), d_3, none, none, none, none] : L2.St) _ from ?_)
      try dsimp only at hm
      refine w_asgD (K := K) (k := keS) (R := rS) (i := 4) d_new hs hm (fun p_others l_p_others vs_p_others G5 H5 e5 hs h5 hm => ?_)
      have h_p_first := (((rP (rsC (rT rS) (rsC (rT rS) (rs1 (rT (rP (rsC rS (rsC rS (rs1 (rT rS))))))))))).mono e5 h_p_first)
      have h_p_second := (((rP (rsC (rT rS) (rsC (rT rS) (rs1 (rT (rP (rsC rS (rsC rS (rs1 (rT rS))))))))))).mono e5 h_p_second)
      have h_p_names := RKs.mono e5 h_p_names
      have h_p_others := h5
      refine (show (_ : TS) _ ([some v_p_first, some v_p_second, some (.ref l_p_names), d_3, some (.ref l_p_others), none, none, none] : L2.St) _ from ?_)
      have ng6 := (hs.at 1 rfl).2.1
      have eg6 := same_new (o := HO.dK vs_p_names) ng6
      have hs := hs.give 1 rfl
      have h_p_names : (rDk keS rS).r K _ (.ref l_p_names) p_names := ⟨l_p_names, vs_p_names, rfl, upd_same, RKs.mono eg6 h_p_names⟩
      have h_p_first := (((rP (rsC (rT rS) (rsC (rT rS) (rs1 (rT (rP (rsC rS (rsC rS (rs1 (rT rS))))))))))).mono eg6 h_p_first)
      have h_p_second := (((rP (rsC (rT rS) (rsC (rT rS) (rs1 (rT (rP (rsC rS (rsC rS (rs1 (rT rS))))))))))).mono eg6 h_p_second)
      have h_p_others := RKs.mono eg6 h_p_others
      refine w_forM (K := K) (fun (p_others : (List (Str × Str))) (σ : L2.St) (G : Hp) (O : Own) => ∃ (l_p_others : Addr) (vs_p_others : List (Key × V)) (d_5 : Option V), σ = [some v_p_first, some v_p_second, some (.ref l_p_names), d_3, some (.ref l_p_others), d_5, none, none] ∧ O = [(l_p_others, .dK vs_p_others)] ∧ RKs keS rS K G vs_p_others p_others) (i_rng1 (e_len sq_T (e_proj (k := 0) pj0 (e_var (K := K) (i := 1) (R := (rP (rsC (rT rS) (rsC (rT rS) (rs1 (rT (rP (rsC rS (rsC rS (rs1 (rT rS))))))))))) (x := p_second) rfl h_p_second)))) (fun _ _ _ _ _ _ h => nomatch h) (tg_name (i := 5) (R := zI)) hs hm ⟨l_p_others, vs_p_others, none, rfl, rfl, h_p_others⟩ (fun p_k p_others σ_ G1_7 G7 O_ H7 vv7 D7 Qb7 e7 w_ e17 hs hv7 E7 hm => ?_) (fun p_others σ_ G1_7 G7 O_ H7 e7 w_ e17 hs hm => ?_)
      · obtain ⟨l_p_others, vs_p_others, d_5, rfl, rfl, h_p_others⟩ := w_
        have h_p_first := (((rP (rsC (rT rS) (rsC (rT rS) (rs1 (rT (rP (rsC rS (rsC rS (rs1 (rT rS))))))))))).mono e7 h_p_first)
        have h_p_second := (((rP (rsC (rT rS) (rsC (rT rS) (rs1 (rT (rP (rsC rS (rsC rS (rs1 (rT rS))))))))))).mono e7 h_p_second)
        have h_p_names := (((rDk keS rS)).mono e7 h_p_names)
        have h_p_others := RKs.mono e17 h_p_others
        obtain ⟨v_p_k, rfl, h_p_k⟩ := hv7
        cases (show v_p_k = V.int p_k from h_p_k)
        have b7 := Same.refl G7
        refine (show (_ : TS) _ ([some v_p_first, some v_p_second, some (.ref l_p_names), d_3, some (.ref l_p_others), some (.int p_k), none, none] : L2.St) _ from ?_)
        unfold m_law_joined_b16 at hm
        try dsimp only at hm
        refine w_dput (K := K) (k := keS) (R := rS) (i := 4) 0 (xs := p_others) rfl rfl h_p_others (e_dgetG (k := keS) (e_var (K := K) (i := 2) (R := (rDk keS rS)) (x := p_names) rfl h_p_names) (e_ixT (e_proj (k := 1) (pjS pj0) (e_var (K := K) (i := 0) (R := (rP (rsC (rT rS) (rsC (rT rS) (rs1 (rT (rP (rsC rS (rsC rS (rs1 (rT rS))))))))))) (x := p_first) rfl h_p_first)) (e_var (K := K) (i := 5) (R := zI) (x := p_k) rfl rfl))) (e_ixT (e_proj (k := 0) pj0 (e_var (K := K) (i := 1) (R := (rP (rsC (rT rS) (rsC (rT rS) (rs1 (rT (rP (rsC rS (rsC rS (rs1 (rT rS))))))))))) (x := p_second) rfl h_p_second)) (e_var (K := K) (i := 5) (R := zI) (x := p_k) rfl rfl)) hs hm (fun p_others vs_p_others G8 H8 e8 hs h8 hm => ?_)
        have h_p_first := (((rP (rsC (rT rS) (rsC (rT rS) (rs1 (rT (rP (rsC rS (rsC rS (rs1 (rT rS))))))))))).mono e8 h_p_first)
        have h_p_second := (((rP (rsC (rT rS) (rsC (rT rS) (rs1 (rT (rP (rsC rS (rsC rS (rs1 (rT rS))))))))))).mono e8 h_p_second)
        have h_p_names := (((rDk keS rS)).mono e8 h_p_names)
        have b7 := Same.trans b7 e8
        have h_p_others := h8
        exact E7.nx p_others _ _ _ _ _ b7 ⟨l_p_others, vs_p_others, some (.int p_k), rfl, rfl, h_p_others⟩ (Same.refl _) hs hm.out
      · obtain ⟨l_p_others, vs_p_others, d_5, rfl, rfl, h_p_others⟩ := w_
        have h_p_first := (((rP (rsC (rT rS) (rsC (rT rS) (rs1 (rT (rP (rsC rS (rsC rS (rs1 (rT rS))))))))))).mono e7 h_p_first)
        have h_p_second := (((rP (rsC (rT rS) (rsC (rT rS) (rs1 (rT (rP (rsC rS (rsC rS (rs1 (rT rS))))))))))).mono e7 h_p_second)
        have h_p_names := (((rDk keS rS)).mono e7 h_p_names)
        have h_p_others := RKs.mono e17 h_p_others
        refine (show (_ : TS) _ ([some v_p_first, some v_p_second, some (.ref l_p_names), d_3, some (.ref l_p_others), d_5, none, none] : L2.St) _ from ?_)
        try dsimp only at hm
        refine w_forM (K := K) (fun (p_others : (List (Str × Str))) (σ : L2.St) (G : Hp) (O : Own) => ∃ (l_p_others : Addr) (vs_p_others : List (Key × V)) (d_5 : Option V), σ = [some v_p_first, some v_p_second, some (.ref l_p_names), d_3, some (.ref l_p_others), d_5, none, none] ∧ O = [(l_p_others, .dK vs_p_others)] ∧ RKs keS rS K G vs_p_others p_others) (i_rng1 (e_len sq_T (e_proj (k := 2) (pjS (pjS pj1)) (e_var (K := K) (i := 1) (R := (rP (rsC (rT rS) (rsC (rT rS) (rs1 (rT (rP (rsC rS (rsC rS (rs1 (rT rS))))))))))) (x := p_second) rfl h_p_second)))) (fun _ _ _ _ _ _ h => nomatch h) (tg_name (i := 5) (R := zI)) hs hm ⟨l_p_others, vs_p_others, d_5, rfl, rfl, h_p_others⟩ (fun p_k p_others σ_ G1_9 G9 O_ H9 vv9 D9 Qb9 e9 w_ e19 hs hv9 E9 hm => ?_) (fun p_others σ_ G1_9 G9 O_ H9 e9 w_ e19 hs hm => ?_)
        · obtain ⟨l_p_others, vs_p_others, d_5, rfl, rfl, h_p_others⟩ := w_
          have h_p_first := (((rP (rsC (rT rS) (rsC (rT rS) (rs1 (rT (rP (rsC rS (rsC rS (rs1 (rT rS))))))))))).mono e9 h_p_first)
          have h_p_second := (((rP (rsC (rT rS) (rsC (rT rS) (rs1 (rT (rP (rsC rS (rsC rS (rs1 (rT rS))))))))))).mono e9 h_p_second)
          have h_p_names := (((rDk keS rS)).mono e9 h_p_names)
          have h_p_others := RKs.mono e19 h_p_others
          obtain ⟨v_p_k, rfl, h_p_k⟩ := hv9
          cases (show v_p_k = V.int p_k from h_p_k)
          have b9 := Same.refl G9
          refine (show (_ : TS) _ ([some v_p_first, some v_p_second, some (.ref l_p_names), d_3, some (.ref l_p_others), some (.int p_k), none, none] : L2.St) _ from ?_)
          unfold m_law_joined_b15 at hm
          try dsimp only at hm
          refine w_dput (K := K) (k := keS) (R := rS) (i := 4) 0 (xs := p_others) rfl rfl h_p_others (e_addS e_str (e_strI (e_var (K := K) (i := 5) (R := zI) (x := p_k) rfl rfl))) (e_proj (k := 0) pj0 (e_ixT (e_proj (k := 2) (pjS (pjS pj1)) (e_var (K := K) (i := 1) (R := (rP (rsC (rT rS) (rsC (rT rS) (rs1 (rT (rP (rsC rS (rsC rS (rs1 (rT rS))))))))))) (x := p_second) rfl h_p_second)) (e_var (K := K) (i := 5) (R := zI) (x := p_k) rfl rfl))) hs hm (fun p_others vs_p_others G10 H10 e10 hs h10 hm => ?_)
          have h_p_first := (((rP (rsC (rT rS) (rsC (rT rS) (rs1 (rT (rP (rsC rS (rsC rS (rs1 (rT rS))))))))))).mono e10 h_p_first)
          have h_p_second := (((rP (rsC (rT rS) (rsC (rT rS) (rs1 (rT (rP (rsC rS (rsC rS (rs1 (rT rS))))))))))).mono e10 h_p_second)
          have h_p_names := (((rDk keS rS)).mono e10 h_p_names)
          have b9 := Same.trans b9 e10
          have h_p_others := h10
          exact E9.nx p_others _ _ _ _ _ b9 ⟨l_p_others, vs_p_others, some (.int p_k), rfl, rfl, h_p_others⟩ (Same.refl _) hs hm.out
        · obtain ⟨l_p_others, vs_p_others, d_5, rfl, rfl, h_p_others⟩ := w_
          have h_p_first := (((rP (rsC (rT rS) (rsC (rT rS) (rs1 (rT (rP (rsC rS (rsC rS (rs1 (rT rS))))))))))).mono e9 h_p_first)
          have h_p_second := (((rP (rsC (rT rS) (rsC (rT rS) (rs1 (rT (rP (rsC rS (rsC rS (rs1 (rT rS))))))))))).mono e9 h_p_second)
          have h_p_names := (((rDk keS rS)).mono e9 h_p_names)
          have h_p_others := RKs.mono e19 h_p_others
          refine (show (_ : TS) _ ([some v_p_first, some v_p_second, some (.ref l_p_names), d_3, some (.ref l_p_others), d_5, none, none] : L2.St) _ from ?_)
          try dsimp only at hm
          have ng11 := (hs.at 0 rfl).2.1
          have eg11 := same_new (o := HO.dK vs_p_others) ng11
          have hs := hs.give 0 rfl
          have h_p_others : (rDk keS rS).r K _ (.ref l_p_others) p_others := ⟨l_p_others, vs_p_others, rfl, upd_same, RKs.mono eg11 h_p_others⟩
          have h_p_first := (((rP (rsC (rT rS) (rsC (rT rS) (rs1 (rT (rP (rsC rS (rsC rS (rs1 (rT rS))))))))))).mono eg11 h_p_first)
          have h_p_second := (((rP (rsC (rT rS) (rsC (rT rS) (rs1 (rT (rP (rsC rS (rsC rS (rs1 (rT rS))))))))))).mono eg11 h_p_second)
          have h_p_names := (((rDk keS rS)).mono eg11 h_p_names)
          refine w_asg (K := K) (tg_name (i := 6) (R := (rK (rP (rsC rS (rsC rS (rs1 (rT rS)))))))) (EvN.evK (n_cat (e_call (fm := ⟨H, G, E, cl⟩) (a_cons (e_proj (k := 2) (pjS (pjS pj1)) (e_var (K := K) (i := 0) (R := (rP (rsC (rT rS) (rsC (rT rS) (rs1 (rT (rP (rsC rS (rsC rS (rs1 (rT rS))))))))))) (x := p_first) rfl h_p_first)) (a_one (e_var (K := K) (i := 2) (R := (rDk keS rS)) (x := p_names) rfl h_p_names)))) (e_call (fm := ⟨H, G, E, cl⟩) (a_cons (e_proj (k := 2) (pjS (pjS pj1)) (e_var (K := K) (i := 1) (R := (rP (rsC (rT rS) (rsC (rT rS) (rs1 (rT (rP (rsC rS (rsC rS (rs1 (rT rS))))))))))) (x := p_second) rfl h_p_second)) (a_one (e_var (K := K) (i := 4) (R := (rDk keS rS)) (x := p_others) rfl h_p_others)))))) hs hm (fun p_gates vv12 G12 H12 e12 hs hv12 hm => ?_)
          obtain ⟨v_p_gates, rfl, h_p_gates⟩ := hv12
          have h_p_first := (((rP (rsC (rT rS) (rsC (rT rS) (rs1 (rT (rP (rsC rS (rsC rS (rs1 (rT rS))))))))))).mono e12 h_p_first)
          have h_p_second := (((rP (rsC (rT rS) (rsC (rT rS) (rs1 (rT (rP (rsC rS (rsC rS (rs1 (rT rS))))))))))).mono e12 h_p_second)
          have h_p_names := (((rDk keS rS)).mono e12 h_p_names)
          have h_p_others := (((rDk keS rS)).mono e12 h_p_others)
          refine (show (_ : TS) _ ([some v_p_first, some v_p_second, some (.ref l_p_names), d_3, some (.ref l_p_others), d_5, some v_p_gates, none] : L2.St) _ from ?_)
          exact w_ret0 (K := K) (e_tup (lnC (lnC ln1)) (a_cons (e_tupleL (e_KL (EvN.evK (n_lc (S := rS) (i_tup (e_proj (k := 0) pj0 (e_var (K := K) (i := 0) (R := (rP (rsC (rT rS) (rsC (rT rS) (rs1 (rT (rP (rsC rS (rsC rS (rs1 (rT rS))))))))))) (x := p_first) rfl h_p_first))) (fun _ h => nomatch h) (tg_name (i := 3) (R := rS)) (by decide) (fun x13 vs13 G13 e13 hv13 => by
           obtain ⟨v13_p_net, rfl, h13_p_net⟩ := hv13
           exact ⟨t_yes, (e_dgetG (k := keS) (e_var (K := K) (i := 2) (R := (rDk keS rS)) (x := p_names) rfl (((rDk keS rS)).mono e13 h_p_names)) (e_var (K := K) (i := 3) (R := rS) (x := x13) rfl h13_p_net))⟩))))) (a_cons (e_tupleL (e_KL (EvN.evK (n_lc (S := rS) (i_tup (e_proj (k := 1) (pjS pj0) (e_var (K := K) (i := 1) (R := (rP (rsC (rT rS) (rsC (rT rS) (rs1 (rT (rP (rsC rS (rsC rS (rs1 (rT rS))))))))))) (x := p_second) rfl h_p_second))) (fun _ h => nomatch h) (tg_name (i := 3) (R := rS)) (by decide) (fun x14 vs14 G14 e14 hv14 => by
           obtain ⟨v14_p_net, rfl, h14_p_net⟩ := hv14
           exact ⟨t_yes, (e_dgetG (k := keS) (e_var (K := K) (i := 4) (R := (rDk keS rS)) (x := p_others) rfl (((rDk keS rS)).mono e14 h_p_others)) (e_var (K := K) (i := 3) (R := rS) (x := x14) rfl h14_p_net))⟩))))) (a_one (e_tupleL (e_KL (e_var (K := K) (i := 6) (R := (rK (rP (rsC rS (rsC rS (rs1 (rT rS))))))) (x := p_gates) rfl h_p_gates)))))) (by decide)) hs hm fun r v G2 H2 hs2 hr2 hq => hq v G2 H2 hs2.fin hr2

theorem ok_law_refused {P : Program} {w : World} {K : PySem.W.Frag} {mg : Str → Option Value} {base : Heap} {cl : Nat → Addr} {fa : Addr} {fd : FuncData} (F : Fun K "_law_refused" "_law_refused" s_law_refused fa fd) (T : Txt K mg cl) (C_join_netlists : Cal P w K mg base "join_netlists" 3 ["first", "second"] (spP K cl (rsC (rP (rsC (rT rS) (rsC (rT rS) (rs1 (rT (rP (rsC rS (rsC rS (rs1 (rT rS)))))))))) (rs1 (rP (rsC (rT rS) (rsC (rT rS) (rs1 (rT (rP (rsC rS (rsC rS (rs1 (rT rS)))))))))))) (rP (rsC (rT rS) (rsC (rT rS) (rs1 (rT (rP (rsC rS (rsC rS (rs1 (rT rS)))))))))) (fun a => m_join_netlists (a.1) (a.2)))) (C_join_tables : Cal P w K mg base "join_tables" 2 ["first", "second"] (spP K cl (rsC (rP (rsC zI (rsC zI (rs1 (rT (rT (rP (rsC zI (rs1 zI))))))))) (rs1 (rP (rsC zI (rsC zI (rs1 (rT (rT (rP (rsC zI (rs1 zI))))))))))) (rP (rsC zI (rsC zI (rs1 (rT (rT (rP (rsC zI (rs1 zI))))))))) (fun a => m_join_tables (a.1) (a.2)))) :
    FnOk P w K mg base (L2.CX P w) 4 fa fd ["nets", "first", "second", "large"] (spP K cl (rsC rB (rsC (rU (rP (rsC (rT rS) (rsC (rT rS) (rs1 (rT (rP (rsC rS (rsC rS (rs1 (rT rS)))))))))) (rP (rsC zI (rsC zI (rs1 (rT (rT (rP (rsC zI (rs1 zI)))))))))) (rsC (rU (rP (rsC (rT rS) (rsC (rT rS) (rs1 (rT (rP (rsC rS (rsC rS (rs1 (rT rS)))))))))) (rP (rsC zI (rsC zI (rs1 (rT (rT (rP (rsC zI (rs1 zI)))))))))) (rs1 rB)))) rB (fun a => m_law_refused (a.1) (a.2.1) (a.2.2.1) (a.2.2.2))) := by
  refine F.okX sc_law_refused (fun vs H Q E h => ?_) (fun cdv A outer s H vs Q E hr h => ?_)
  · obtain ⟨G, a, _, hS, _⟩ := h
    exact (lnC (lnC (lnC ln1))) _ _ _ _ hS
  · obtain ⟨G, ⟨p_nets, p_first, p_second, p_large⟩, hg, hS, hm⟩ := h
    obtain ⟨v_p_nets, _, rfl, h_p_nets, v_p_first, _, rfl, h_p_first, v_p_second, _, rfl, h_p_second, v_p_large, rfl, h_p_large⟩ := hS
    cases (show v_p_nets = V.bl p_nets from h_p_nets)
    cases (show v_p_large = V.bl p_large from h_p_large)
    have tk : Takes (cxOf (L2.CX P w) P w K mg base N_law_refused "_law_refused" (defScope s_law_refused) fa cdv A outer s H E) (fun cls d _ H => E cls d H) := takes_of rfl rfl rfl rfl
    refine ⟨_, (pss_cons (show PS _ _ (tTry _ K _ 4 _ _) from ps_try_as (i := 4) rfl rfl sc_law_refused.nd rfl rfl (c := .ref (cl 2)) ⟨rfl, by decide, .inl T.g_2⟩ tk (fun W1 pn xe tkW1 hp => (pss_cons (ps_if (pt_val (pv 0)) (pss_cons (ps_expr (pe_callS (E := WE W1) C_join_netlists.ok (hr.mono (by decide)) rfl C_join_netlists.mgx C_join_netlists.kp C_join_netlists.bd (fun σ => passAt tkW1 σ) (pa_cons (pv 1) (pa_cons (pv 2) pa_nil))))
     pss_nil) (pss_cons (ps_expr (pe_callS (E := WE W1) C_join_tables.ok (hr.mono (by decide)) rfl C_join_tables.mgx C_join_tables.kp C_join_tables.bd (fun σ => passAt tkW1 σ) (pa_cons (pv 1) (pa_cons (pv 2) pa_nil))))
     pss_nil))
     pss_nil)) (tSuG_ok (cl := cl) (n := 2) (fun a1 oe C1 pn hE1 hz1 hf1 => (pss_cons (ps_if (pt_val (pv 3)) (pss_cons (ps_ret (pe_callB (r := rIsE K C1 a1) (call_isE hE1 hz1 hf1) (by rfl) T.n_isinstance b_isinstance (pa_cons (pv 4) (pa_cons (pe_glob (v := .ref (cl 1)) rfl T.g_1 rfl) pa_nil))))
     pss_nil) pss_nil)
     (pss_cons (ps_ret (pe_callB (r := rIsE K C1 a1) (call_isE hE1 hz1 hf1) (by rfl) T.n_isinstance b_isinstance (pa_cons (pv 4) (pa_cons (pe_glob (v := .ref (cl 0)) rfl T.g_0 rfl) pa_nil))))
     pss_nil))) (fun k hk => T.ec k hk)))
     (pss_cons (ps_ret pe_bl)
     pss_nil)), ?_⟩
    have hs : Hs ⟨H, G, E, cl⟩ G [] H := Hs.start hg
    have hm := Wp.ofSp (G0 := G) hm
    try dsimp only at hm
    unfold m_law_refused at hm
    refine (show (_ : TS) _ ([some (.bl p_nets), some v_p_first, some v_p_second, some (.bl p_large), none] : L2.St) _ from ?_)
    refine w_tryG (K := K) hs hm (fun k hk => T.ex k hk) (fun k1 a1 H1 hk1 hs hm => ?_) (fun D1 Qb1 W1 nx1 hs hm => ?_) (fun G1 H1 e1 hs hm => ?_)
    · refine (show (_ : TS) _ ([some (.bl p_nets), some v_p_first, some v_p_second, some (.bl p_large), some (.ref a1)] : L2.St) _ from ?_)
      try dsimp only at hm
      refine w_if (t_val (K := K) (e_var (K := K) (i := 3) (R := rB) (x := p_large) rfl rfl)) hs hm (fun G5 H5 e5 hs hm => ?_) (fun G5 H5 e5 hs hm => ?_)
      · have h_p_first := (((rU (rP (rsC (rT rS) (rsC (rT rS) (rs1 (rT (rP (rsC rS (rsC rS (rs1 (rT rS)))))))))) (rP (rsC zI (rsC zI (rs1 (rT (rT (rP (rsC zI (rs1 zI))))))))))).mono e5 h_p_first)
        have h_p_second := (((rU (rP (rsC (rT rS) (rsC (rT rS) (rs1 (rT (rP (rsC rS (rsC rS (rs1 (rT rS)))))))))) (rP (rsC zI (rsC zI (rs1 (rT (rT (rP (rsC zI (rs1 zI))))))))))).mono e5 h_p_second)
        exact w_ret0 (K := K) (e_isE (a := a1) (C := cl k1) rfl (T.kit k1 1 hk1 (by decide))) hs hm fun r v G2 H2 hs2 hr2 hq => hq v G2 H2 hs2.fin hr2
      · have h_p_first := (((rU (rP (rsC (rT rS) (rsC (rT rS) (rs1 (rT (rP (rsC rS (rsC rS (rs1 (rT rS)))))))))) (rP (rsC zI (rsC zI (rs1 (rT (rT (rP (rsC zI (rs1 zI))))))))))).mono e5 h_p_first)
        have h_p_second := (((rU (rP (rsC (rT rS) (rsC (rT rS) (rs1 (rT (rP (rsC rS (rsC rS (rs1 (rT rS)))))))))) (rP (rsC zI (rsC zI (rs1 (rT (rT (rP (rsC zI (rs1 zI))))))))))).mono e5 h_p_second)
        refine nx_of ?_
        try dsimp only
        refine (show (_ : TS) _ ([some (.bl p_nets), some v_p_first, some v_p_second, some (.bl p_large), some (.ref a1)] : L2.St) _ from ?_)
        exact w_ret0 (K := K) (e_isE (a := a1) (C := cl k1) rfl (T.kit k1 0 hk1 (by decide))) hs hm fun r v G2 H2 hs2 hr2 hq => hq v G2 H2 hs2.fin hr2
    · have b1 := Hs.sr hs
      refine w_if (t_val (K := K) (e_var (K := K) (i := 0) (R := rB) (x := p_nets) rfl rfl)) hs hm (fun G2 H2 e2 hs hm => ?_) (fun G2 H2 e2 hs hm => ?_)
      · have h_p_first := (((rU (rP (rsC (rT rS) (rsC (rT rS) (rs1 (rT (rP (rsC rS (rsC rS (rs1 (rT rS)))))))))) (rP (rsC zI (rsC zI (rs1 (rT (rT (rP (rsC zI (rs1 zI))))))))))).mono e2 h_p_first)
        have h_p_second := (((rU (rP (rsC (rT rS) (rsC (rT rS) (rs1 (rT (rP (rsC rS (rsC rS (rs1 (rT rS)))))))))) (rP (rsC zI (rsC zI (rs1 (rT (rT (rP (rsC zI (rs1 zI))))))))))).mono e2 h_p_second)
        have b1 := Same.trans b1 e2
        refine w_drop (K := K) (e_callS (fm := ⟨_, _, WE W1 [some (.bl p_nets), some v_p_first, some v_p_second, some (.bl p_large), none], cl⟩) rfl (a_cons (e_getl (R := (rP (rsC (rT rS) (rsC (rT rS) (rs1 (rT (rP (rsC rS (rsC rS (rs1 (rT rS))))))))))) (S := (rP (rsC zI (rsC zI (rs1 (rT (rT (rP (rsC zI (rs1 zI)))))))))) (e_var (K := K) (i := 1) (R := (rU (rP (rsC (rT rS) (rsC (rT rS) (rs1 (rT (rP (rsC rS (rsC rS (rs1 (rT rS)))))))))) (rP (rsC zI (rsC zI (rs1 (rT (rT (rP (rsC zI (rs1 zI))))))))))) (x := p_first) rfl h_p_first)) (a_one (e_getl (R := (rP (rsC (rT rS) (rsC (rT rS) (rs1 (rT (rP (rsC rS (rsC rS (rs1 (rT rS))))))))))) (S := (rP (rsC zI (rsC zI (rs1 (rT (rT (rP (rsC zI (rs1 zI)))))))))) (e_var (K := K) (i := 2) (R := (rU (rP (rsC (rT rS) (rsC (rT rS) (rs1 (rT (rP (rsC rS (rsC rS (rs1 (rT rS)))))))))) (rP (rsC zI (rsC zI (rs1 (rT (rT (rP (rsC zI (rs1 zI))))))))))) (x := p_second) rfl h_p_second))))) hs hm (fun x3 G3 H3 e3 hs hm => ?_)
        have h_p_first := (((rU (rP (rsC (rT rS) (rsC (rT rS) (rs1 (rT (rP (rsC rS (rsC rS (rs1 (rT rS)))))))))) (rP (rsC zI (rsC zI (rs1 (rT (rT (rP (rsC zI (rs1 zI))))))))))).mono e3 h_p_first)
        have h_p_second := (((rU (rP (rsC (rT rS) (rsC (rT rS) (rs1 (rT (rP (rsC rS (rsC rS (rs1 (rT rS)))))))))) (rP (rsC zI (rsC zI (rs1 (rT (rT (rP (rsC zI (rs1 zI))))))))))).mono e3 h_p_second)
        have b1 := Same.trans b1 e3
        refine nx_of ?_
        try dsimp only
        refine (show (_ : TS) _ ([some (.bl p_nets), some v_p_first, some v_p_second, some (.bl p_large), none] : L2.St) _ from ?_)
        exact nx1 _ _ b1 hs hm.out
      · have h_p_first := (((rU (rP (rsC (rT rS) (rsC (rT rS) (rs1 (rT (rP (rsC rS (rsC rS (rs1 (rT rS)))))))))) (rP (rsC zI (rsC zI (rs1 (rT (rT (rP (rsC zI (rs1 zI))))))))))).mono e2 h_p_first)
        have h_p_second := (((rU (rP (rsC (rT rS) (rsC (rT rS) (rs1 (rT (rP (rsC rS (rsC rS (rs1 (rT rS)))))))))) (rP (rsC zI (rsC zI (rs1 (rT (rT (rP (rsC zI (rs1 zI))))))))))).mono e2 h_p_second)
        have b1 := Same.trans b1 e2
        refine w_drop (K := K) (e_callS (fm := ⟨_, _, WE W1 [some (.bl p_nets), some v_p_first, some v_p_second, some (.bl p_large), none], cl⟩) rfl (a_cons (e_getr (R := (rP (rsC (rT rS) (rsC (rT rS) (rs1 (rT (rP (rsC rS (rsC rS (rs1 (rT rS))))))))))) (S := (rP (rsC zI (rsC zI (rs1 (rT (rT (rP (rsC zI (rs1 zI)))))))))) (e_var (K := K) (i := 1) (R := (rU (rP (rsC (rT rS) (rsC (rT rS) (rs1 (rT (rP (rsC rS (rsC rS (rs1 (rT rS)))))))))) (rP (rsC zI (rsC zI (rs1 (rT (rT (rP (rsC zI (rs1 zI))))))))))) (x := p_first) rfl h_p_first)) (a_one (e_getr (R := (rP (rsC (rT rS) (rsC (rT rS) (rs1 (rT (rP (rsC rS (rsC rS (rs1 (rT rS))))))))))) (S := (rP (rsC zI (rsC zI (rs1 (rT (rT (rP (rsC zI (rs1 zI)))))))))) (e_var (K := K) (i := 2) (R := (rU (rP (rsC (rT rS) (rsC (rT rS) (rs1 (rT (rP (rsC rS (rsC rS (rs1 (rT rS)))))))))) (rP (rsC zI (rsC zI (rs1 (rT (rT (rP (rsC zI (rs1 zI))))))))))) (x := p_second) rfl h_p_second))))) hs hm (fun x4 G4 H4 e4 hs hm => ?_)
        have h_p_first := (((rU (rP (rsC (rT rS) (rsC (rT rS) (rs1 (rT (rP (rsC rS (rsC rS (rs1 (rT rS)))))))))) (rP (rsC zI (rsC zI (rs1 (rT (rT (rP (rsC zI (rs1 zI))))))))))).mono e4 h_p_first)
        have h_p_second := (((rU (rP (rsC (rT rS) (rsC (rT rS) (rs1 (rT (rP (rsC rS (rsC rS (rs1 (rT rS)))))))))) (rP (rsC zI (rsC zI (rs1 (rT (rT (rP (rsC zI (rs1 zI))))))))))).mono e4 h_p_second)
        have b1 := Same.trans b1 e4
        refine nx_of ?_
        try dsimp only
        refine (show (_ : TS) _ ([some (.bl p_nets), some v_p_first, some v_p_second, some (.bl p_large), none] : L2.St) _ from ?_)
        exact nx1 _ _ b1 hs hm.out
    · have h_p_first := (((rU (rP (rsC (rT rS) (rsC (rT rS) (rs1 (rT (rP (rsC rS (rsC rS (rs1 (rT rS)))))))))) (rP (rsC zI (rsC zI (rs1 (rT (rT (rP (rsC zI (rs1 zI))))))))))).mono e1 h_p_first)
      have h_p_second := (((rU (rP (rsC (rT rS) (rsC (rT rS) (rs1 (rT (rP (rsC rS (rsC rS (rs1 (rT rS)))))))))) (rP (rsC zI (rsC zI (rs1 (rT (rT (rP (rsC zI (rs1 zI))))))))))).mono e1 h_p_second)
      refine (show (_ : TS) _ ([some (.bl p_nets), some v_p_first, some v_p_second, some (.bl p_large), none] : L2.St) _ from ?_)
      try dsimp only at hm
      exact w_ret0 (K := K) e_bl hs hm fun r v G2 H2 hs2 hr2 hq => hq v G2 H2 hs2.fin hr2

theorem ok_law_right_netlists {P : Program} {w : World} {K : PySem.W.Frag} {mg : Str → Option Value} {base : Heap} {cl : Nat → Addr} {fa : Addr} {fd : FuncData} (F : Fun K "_law_right_netlists" "_law_right_netlists" s_law_right_netlists fa fd) (T : Txt K mg cl) (C_law_refused : Cal P w K mg base "_law_refused" 4 ["nets", "first", "second", "large"] (spP K cl (rsC rB (rsC (rU (rP (rsC (rT rS) (rsC (rT rS) (rs1 (rT (rP (rsC rS (rsC rS (rs1 (rT rS)))))))))) (rP (rsC zI (rsC zI (rs1 (rT (rT (rP (rsC zI (rs1 zI)))))))))) (rsC (rU (rP (rsC (rT rS) (rsC (rT rS) (rs1 (rT (rP (rsC rS (rsC rS (rs1 (rT rS)))))))))) (rP (rsC zI (rsC zI (rs1 (rT (rT (rP (rsC zI (rs1 zI)))))))))) (rs1 rB)))) rB (fun a => m_law_refused (a.1) (a.2.1) (a.2.2.1) (a.2.2.2)))) (C_law_joined : Cal P w K mg base "_law_joined" 2 ["first", "second"] (spP K cl (rsC (rP (rsC (rT rS) (rsC (rT rS) (rs1 (rT (rP (rsC rS (rsC rS (rs1 (rT rS)))))))))) (rs1 (rP (rsC (rT rS) (rsC (rT rS) (rs1 (rT (rP (rsC rS (rsC rS (rs1 (rT rS)))))))))))) (rP (rsC (rT rS) (rsC (rT rS) (rs1 (rT (rP (rsC rS (rsC rS (rs1 (rT rS)))))))))) (fun a => m_law_joined (a.1) (a.2)))) (C_join_netlists : Cal P w K mg base "join_netlists" 3 ["first", "second"] (spP K cl (rsC (rP (rsC (rT rS) (rsC (rT rS) (rs1 (rT (rP (rsC rS (rsC rS (rs1 (rT rS)))))))))) (rs1 (rP (rsC (rT rS) (rsC (rT rS) (rs1 (rT (rP (rsC rS (rsC rS (rs1 (rT rS)))))))))))) (rP (rsC (rT rS) (rsC (rT rS) (rs1 (rT (rP (rsC rS (rsC rS (rs1 (rT rS)))))))))) (fun a => m_join_netlists (a.1) (a.2)))) (C_law_same_netlist : Cal P w K mg base "_law_same_netlist" 1 ["actual", "expected"] (spP K cl (rsC (rP (rsC (rT rS) (rsC (rT rS) (rs1 (rT (rP (rsC rS (rsC rS (rs1 (rT rS)))))))))) (rs1 (rP (rsC (rT rS) (rsC (rT rS) (rs1 (rT (rP (rsC rS (rsC rS (rs1 (rT rS)))))))))))) rB (fun a => m_law_same_netlist (a.1) (a.2)))) (C_law_net_table : Cal P w K mg base "_law_net_table" 3 ["netlist"] (spP K cl (rs1 (rP (rsC (rT rS) (rsC (rT rS) (rs1 (rT (rP (rsC rS (rsC rS (rs1 (rT rS))))))))))) (rP (rsC zI (rsC zI (rs1 (rT (rT (rP (rsC zI (rs1 zI))))))))) (fun a => m_law_net_table a))) (C_law_joined_tables : Cal P w K mg base "_law_joined_tables" 1 ["first", "second"] (spP K cl (rsC (rP (rsC zI (rsC zI (rs1 (rT (rT (rP (rsC zI (rs1 zI))))))))) (rs1 (rP (rsC zI (rsC zI (rs1 (rT (rT (rP (rsC zI (rs1 zI))))))))))) (rP (rsC zI (rsC zI (rs1 (rT (rT (rP (rsC zI (rs1 zI))))))))) (fun a => m_law_joined_tables (a.1) (a.2)))) :
    FnOk P w K mg base (L2.CX P w) 5 fa fd ["first", "second", "walk"] (spP K cl (rsC (rP (rsC (rT rS) (rsC (rT rS) (rs1 (rT (rP (rsC rS (rsC rS (rs1 (rT rS)))))))))) (rsC (rP (rsC (rT rS) (rsC (rT rS) (rs1 (rT (rP (rsC rS (rsC rS (rs1 (rT rS)))))))))) (rs1 rB))) rB (fun a => m_law_right_netlists (a.1) (a.2.1) (a.2.2))) := by
  refine F.okX sc_law_right_netlists (fun vs H Q E h => ?_) (fun cdv A outer s H vs Q E hr h => ?_)
  · obtain ⟨G, a, _, hS, _⟩ := h
    exact (lnC (lnC ln1)) _ _ _ _ hS
  · obtain ⟨G, ⟨p_first, p_second, p_walk⟩, hg, hS, hm⟩ := h
    obtain ⟨v_p_first, _, rfl, h_p_first, v_p_second, _, rfl, h_p_second, v_p_walk, rfl, h_p_walk⟩ := hS
    cases (show v_p_walk = V.bl p_walk from h_p_walk)
    have tk : Takes (cxOf (L2.CX P w) P w K mg base N_law_right_netlists "_law_right_netlists" (defScope s_law_right_netlists) fa cdv A outer s H E) (fun cls d _ H => E cls d H) := takes_of rfl rfl rfl rfl
    refine ⟨_, (pss_cons (ps_if (pt_cmpR op_ne (pe_callB (r := Mw.rLen K) call_len (by rfl) T.n_len b_len (pa_cons (pe_ix (r := rIxT K) ix_tup (pv 0) pe_int (fun _ _ => rfl)) pa_nil)) (pe_callB (r := Mw.rLen K) call_len (by rfl) T.n_len b_len (pa_cons (pe_ix (r := rIxT K) ix_tup (pv 1) pe_int (fun _ _ => rfl)) pa_nil)) (nomark _)) (pss_cons (ps_ret (pe_call (E := E) C_law_refused.ok (hr.mono (by decide)) rfl C_law_refused.mgx C_law_refused.kp C_law_refused.bd .nil (passes_call tk (fun _ _ _ _ h => h)) (pa_cons pe_bl (pa_cons (pv 0) (pa_cons (pv 1) (pa_cons pe_bl pa_nil))))))
     pss_nil) pss_nil)
     (pss_cons (ps_set (i := 3) sc_law_right_netlists.nd rfl (by first | exact Or.inl rfl | exact Or.inr rfl) (pe_call (E := E) C_law_joined.ok (hr.mono (by decide)) rfl C_law_joined.mgx C_law_joined.kp C_law_joined.bd .nil (passes_call tk (fun _ _ _ _ h => h)) (pa_cons (pv 0) (pa_cons (pv 1) pa_nil))))
     (pss_cons (ps_if (PW.pt (pw_or (pt_cmpR op_gt (pe_callB (r := Mw.rLen K) call_len (by rfl) T.n_len b_len (pa_cons (pe_ix (r := rIxT K) ix_tup (pv 3) pe_int (fun _ _ => rfl)) pa_nil)) pe_int (nomark _)) (pw_or1 (pt_cmpR op_gt (pe_callB (r := Mw.rLen K) call_len (by rfl) T.n_len b_len (pa_cons (pe_lc (own := [("gate", 5)]) rfl sc_law_right_netlists.nd (pi_tup (pe_ix (r := rIxT K) ix_tup (pv 3) pe_int (fun _ _ => rfl))) (blkOk_by (own := [("gate", 5)]) (N := N_law_right_netlists) (sc := defScope s_law_right_netlists) (by decide +kernel)) (fun _ _ _ _ _ => (pg_name (i := 5) sc_law_right_netlists.nd rfl (by first | exact Or.inl rfl | exact Or.inr rfl))) (fun _ _ _ _ _ => (pts_one (pt_cmpR op_eq (pe_ix (r := rIxT K) ix_tup (pv 5) pe_int (fun _ _ => rfl)) pe_str (nomark _)))) (fun _ _ _ _ _ => pe_int)) pa_nil)) pe_int (nomark _))))) (pss_cons (ps_ret (pe_call (E := E) C_law_refused.ok (hr.mono (by decide)) rfl C_law_refused.mgx C_law_refused.kp C_law_refused.bd .nil (passes_call tk (fun _ _ _ _ h => h)) (pa_cons pe_bl (pa_cons (pv 0) (pa_cons (pv 1) (pa_cons pe_bl pa_nil))))))
     pss_nil) pss_nil)
     (pss_cons (ps_set (i := 4) sc_law_right_netlists.nd rfl (by first | exact Or.inl rfl | exact Or.inr rfl) (pe_call (E := E) C_join_netlists.ok (hr.mono (by decide)) rfl C_join_netlists.mgx C_join_netlists.kp C_join_netlists.bd .nil (passes_call tk (fun _ _ _ _ h => h)) (pa_cons (pv 0) (pa_cons (pv 1) pa_nil))))
     (pss_cons (ps_if (pt_not (pt_val (pe_call (E := E) C_law_same_netlist.ok (hr.mono (by decide)) rfl C_law_same_netlist.mgx C_law_same_netlist.kp C_law_same_netlist.bd .nil (passes_call tk (fun _ _ _ _ h => h)) (pa_cons (pv 4) (pa_cons (pv 3) pa_nil))))) (pss_cons (ps_ret pe_bl)
     pss_nil) pss_nil)
     (pss_cons (ps_if (pt_not (pt_val (pv 2))) (pss_cons (ps_ret pe_bl)
     pss_nil) pss_nil)
     (pss_cons (ps_ret (pe_cmpR (r := rEqD K) (op_eqD hr.units) (pe_call (E := E) C_law_net_table.ok (hr.mono (by decide)) rfl C_law_net_table.mgx C_law_net_table.kp C_law_net_table.bd .nil (passes_call tk (fun _ _ _ _ h => h)) (pa_cons (pv 4) pa_nil)) (pe_call (E := E) C_law_joined_tables.ok (hr.mono (by decide)) rfl C_law_joined_tables.mgx C_law_joined_tables.kp C_law_joined_tables.bd .nil (passes_call tk (fun _ _ _ _ h => h)) (pa_cons (pe_call (E := E) C_law_net_table.ok (hr.mono (by decide)) rfl C_law_net_table.mgx C_law_net_table.kp C_law_net_table.bd .nil (passes_call tk (fun _ _ _ _ h => h)) (pa_cons (pv 0) pa_nil)) (pa_cons (pe_call (E := E) C_law_net_table.ok (hr.mono (by decide)) rfl C_law_net_table.mgx C_law_net_table.kp C_law_net_table.bd .nil (passes_call tk (fun _ _ _ _ h => h)) (pa_cons (pv 1) pa_nil)) pa_nil))) (nomark _)))
     pss_nil))))))), ?_⟩
    have hs : Hs ⟨H, G, E, cl⟩ G [] H := Hs.start hg
    have hm := Wp.ofSp (G0 := G) hm
    try dsimp only at hm
    unfold m_law_right_netlists at hm
    refine (show (_ : TS) _ ([some v_p_first, some v_p_second, some (.bl p_walk), none, none, none] : L2.St) _ from ?_)
    refine w_if (t_test (K := K) (e_ne srI (e_len sq_T (e_proj (k := 1) (pjS pj0) (e_var (K := K) (i := 0) (R := (rP (rsC (rT rS) (rsC (rT rS) (rs1 (rT (rP (rsC rS (rsC rS (rs1 (rT rS))))))))))) (x := p_first) rfl h_p_first))) (e_len sq_T (e_proj (k := 0) pj0 (e_var (K := K) (i := 1) (R := (rP (rsC (rT rS) (rsC (rT rS) (rs1 (rT (rP (rsC rS (rsC rS (rs1 (rT rS))))))))))) (x := p_second) rfl h_p_second))))) hs hm (fun G1 H1 e1 hs hm => ?_) (fun G1 H1 e1 hs hm => ?_)
    · have h_p_first := (((rP (rsC (rT rS) (rsC (rT rS) (rs1 (rT (rP (rsC rS (rsC rS (rs1 (rT rS))))))))))).mono e1 h_p_first)
      have h_p_second := (((rP (rsC (rT rS) (rsC (rT rS) (rs1 (rT (rP (rsC rS (rsC rS (rs1 (rT rS))))))))))).mono e1 h_p_second)
      exact w_ret0 (K := K) (e_call (fm := ⟨H, G, E, cl⟩) (a_cons e_bl (a_cons (e_inl (R := (rP (rsC (rT rS) (rsC (rT rS) (rs1 (rT (rP (rsC rS (rsC rS (rs1 (rT rS))))))))))) (S := (rP (rsC zI (rsC zI (rs1 (rT (rT (rP (rsC zI (rs1 zI)))))))))) (e_var (K := K) (i := 0) (R := (rP (rsC (rT rS) (rsC (rT rS) (rs1 (rT (rP (rsC rS (rsC rS (rs1 (rT rS))))))))))) (x := p_first) rfl h_p_first)) (a_cons (e_inl (R := (rP (rsC (rT rS) (rsC (rT rS) (rs1 (rT (rP (rsC rS (rsC rS (rs1 (rT rS))))))))))) (S := (rP (rsC zI (rsC zI (rs1 (rT (rT (rP (rsC zI (rs1 zI)))))))))) (e_var (K := K) (i := 1) (R := (rP (rsC (rT rS) (rsC (rT rS) (rs1 (rT (rP (rsC rS (rsC rS (rs1 (rT rS))))))))))) (x := p_second) rfl h_p_second)) (a_one e_bl))))) hs hm fun r v G2 H2 hs2 hr2 hq => hq v G2 H2 hs2.fin hr2
    · have h_p_first := (((rP (rsC (rT rS) (rsC (rT rS) (rs1 (rT (rP (rsC rS (rsC rS (rs1 (rT rS))))))))))).mono e1 h_p_first)
      have h_p_second := (((rP (rsC (rT rS) (rsC (rT rS) (rs1 (rT (rP (rsC rS (rsC rS (rs1 (rT rS))))))))))).mono e1 h_p_second)
      refine nx_of ?_
      try dsimp only
      refine (show (_ : TS) _ ([some v_p_first, some v_p_second, some (.bl p_walk), none, none, none] : L2.St) _ from ?_)
      refine w_asg (K := K) (tg_name (i := 3) (R := (rP (rsC (rT rS) (rsC (rT rS) (rs1 (rT (rP (rsC rS (rsC rS (rs1 (rT rS)))))))))))) (e_call (fm := ⟨H, G, E, cl⟩) (a_cons (e_var (K := K) (i := 0) (R := (rP (rsC (rT rS) (rsC (rT rS) (rs1 (rT (rP (rsC rS (rsC rS (rs1 (rT rS))))))))))) (x := p_first) rfl h_p_first) (a_one (e_var (K := K) (i := 1) (R := (rP (rsC (rT rS) (rsC (rT rS) (rs1 (rT (rP (rsC rS (rsC rS (rs1 (rT rS))))))))))) (x := p_second) rfl h_p_second)))) hs hm (fun p_due vv2 G2 H2 e2 hs hv2 hm => ?_)
      obtain ⟨v_p_due, rfl, h_p_due⟩ := hv2
      have h_p_first := (((rP (rsC (rT rS) (rsC (rT rS) (rs1 (rT (rP (rsC rS (rsC rS (rs1 (rT rS))))))))))).mono e2 h_p_first)
      have h_p_second := (((rP (rsC (rT rS) (rsC (rT rS) (rs1 (rT (rP (rsC rS (rsC rS (rs1 (rT rS))))))))))).mono e2 h_p_second)
      refine (show (_ : TS) _ ([some v_p_first, some v_p_second, some (.bl p_walk), some v_p_due, none, none] : L2.St) _ from ?_)
      refine w_if (t_or (t_test (K := K) (e_cmp (p := fun i j => decide (j < i)) (e_len sq_T (e_proj (k := 2) (pjS (pjS pj1)) (e_var (K := K) (i := 3) (R := (rP (rsC (rT rS) (rsC (rT rS) (rs1 (rT (rP (rsC rS (rsC rS (rs1 (rT rS))))))))))) (x := p_due) rfl h_p_due))) e_int)) (t_test (K := K) (e_cmp (p := fun i j => decide (j < i)) (e_len sq_K (EvN.evK (n_lc (S := zI) (i_tup (e_proj (k := 2) (pjS (pjS pj1)) (e_var (K := K) (i := 3) (R := (rP (rsC (rT rS) (rsC (rT rS) (rs1 (rT (rP (rsC rS (rsC rS (rs1 (rT rS))))))))))) (x := p_due) rfl h_p_due))) (fun _ h => nomatch h) (tg_name (i := 5) (R := (rP (rsC rS (rsC rS (rs1 (rT rS))))))) (by decide) (fun x3 vs3 G3 e3 hv3 => by
       obtain ⟨v3_p_gate, rfl, h3_p_gate⟩ := hv3
       exact ⟨(t_test (K := K) (e_eq srS (e_proj (k := 1) (pjS pj0) (e_var (K := K) (i := 5) (R := (rP (rsC rS (rsC rS (rs1 (rT rS)))))) (x := x3) rfl h3_p_gate)) e_str)), e_int⟩)))) e_int))) hs hm (fun G4 H4 e4 hs hm => ?_) (fun G4 H4 e4 hs hm => ?_)
      · have h_p_first := (((rP (rsC (rT rS) (rsC (rT rS) (rs1 (rT (rP (rsC rS (rsC rS (rs1 (rT rS))))))))))).mono e4 h_p_first)
        have h_p_second := (((rP (rsC (rT rS) (rsC (rT rS) (rs1 (rT (rP (rsC rS (rsC rS (rs1 (rT rS))))))))))).mono e4 h_p_second)
        have h_p_due := (((rP (rsC (rT rS) (rsC (rT rS) (rs1 (rT (rP (rsC rS (rsC rS (rs1 (rT rS))))))))))).mono e4 h_p_due)
        exact w_ret0 (K := K) (e_call (fm := ⟨H, G, E, cl⟩) (a_cons e_bl (a_cons (e_inl (R := (rP (rsC (rT rS) (rsC (rT rS) (rs1 (rT (rP (rsC rS (rsC rS (rs1 (rT rS))))))))))) (S := (rP (rsC zI (rsC zI (rs1 (rT (rT (rP (rsC zI (rs1 zI)))))))))) (e_var (K := K) (i := 0) (R := (rP (rsC (rT rS) (rsC (rT rS) (rs1 (rT (rP (rsC rS (rsC rS (rs1 (rT rS))))))))))) (x := p_first) rfl h_p_first)) (a_cons (e_inl (R := (rP (rsC (rT rS) (rsC (rT rS) (rs1 (rT (rP (rsC rS (rsC rS (rs1 (rT rS))))))))))) (S := (rP (rsC zI (rsC zI (rs1 (rT (rT (rP (rsC zI (rs1 zI)))))))))) (e_var (K := K) (i := 1) (R := (rP (rsC (rT rS) (rsC (rT rS) (rs1 (rT (rP (rsC rS (rsC rS (rs1 (rT rS))))))))))) (x := p_second) rfl h_p_second)) (a_one e_bl))))) hs hm fun r v G2 H2 hs2 hr2 hq => hq v G2 H2 hs2.fin hr2
      · have h_p_first := (((rP (rsC (rT rS) (rsC (rT rS) (rs1 (rT (rP (rsC rS (rsC rS (rs1 (rT rS))))))))))).mono e4 h_p_first)
        have h_p_second := (((rP (rsC (rT rS) (rsC (rT rS) (rs1 (rT (rP (rsC rS (rsC rS (rs1 (rT rS))))))))))).mono e4 h_p_second)
        have h_p_due := (((rP (rsC (rT rS) (rsC (rT rS) (rs1 (rT (rP (rsC rS (rsC rS (rs1 (rT rS))))))))))).mono e4 h_p_due)
        refine nx_of ?_
        try dsimp only
        refine (show (_ : TS) _ ([some v_p_first, some v_p_second, some (.bl p_walk), some v_p_due, none, none] : L2.St) _ from ?_)
        refine w_asg (K := K) (tg_name (i := 4) (R := (rP (rsC (rT rS) (rsC (rT rS) (rs1 (rT (rP (rsC rS (rsC rS (rs1 (rT rS)))))))))))) (e_call (fm := ⟨H, G, E, cl⟩) (a_cons (e_var (K := K) (i := 0) (R := (rP (rsC (rT rS) (rsC (rT rS) (rs1 (rT (rP (rsC rS (rsC rS (rs1 (rT rS))))))))))) (x := p_first) rfl h_p_first) (a_one (e_var (K := K) (i := 1) (R := (rP (rsC (rT rS) (rsC (rT rS) (rs1 (rT (rP (rsC rS (rsC rS (rs1 (rT rS))))))))))) (x := p_second) rfl h_p_second)))) hs hm (fun p_told vv5 G5 H5 e5 hs hv5 hm => ?_)
        obtain ⟨v_p_told, rfl, h_p_told⟩ := hv5
        have h_p_first := (((rP (rsC (rT rS) (rsC (rT rS) (rs1 (rT (rP (rsC rS (rsC rS (rs1 (rT rS))))))))))).mono e5 h_p_first)
        have h_p_second := (((rP (rsC (rT rS) (rsC (rT rS) (rs1 (rT (rP (rsC rS (rsC rS (rs1 (rT rS))))))))))).mono e5 h_p_second)
        have h_p_due := (((rP (rsC (rT rS) (rsC (rT rS) (rs1 (rT (rP (rsC rS (rsC rS (rs1 (rT rS))))))))))).mono e5 h_p_due)
        refine (show (_ : TS) _ ([some v_p_first, some v_p_second, some (.bl p_walk), some v_p_due, some v_p_told, none] : L2.St) _ from ?_)
        refine w_if (t_not (t_val (K := K) (e_call (fm := ⟨H, G, E, cl⟩) (a_cons (e_var (K := K) (i := 4) (R := (rP (rsC (rT rS) (rsC (rT rS) (rs1 (rT (rP (rsC rS (rsC rS (rs1 (rT rS))))))))))) (x := p_told) rfl h_p_told) (a_one (e_var (K := K) (i := 3) (R := (rP (rsC (rT rS) (rsC (rT rS) (rs1 (rT (rP (rsC rS (rsC rS (rs1 (rT rS))))))))))) (x := p_due) rfl h_p_due)))))) hs hm (fun G6 H6 e6 hs hm => ?_) (fun G6 H6 e6 hs hm => ?_)
        · have h_p_first := (((rP (rsC (rT rS) (rsC (rT rS) (rs1 (rT (rP (rsC rS (rsC rS (rs1 (rT rS))))))))))).mono e6 h_p_first)
          have h_p_second := (((rP (rsC (rT rS) (rsC (rT rS) (rs1 (rT (rP (rsC rS (rsC rS (rs1 (rT rS))))))))))).mono e6 h_p_second)
          have h_p_due := (((rP (rsC (rT rS) (rsC (rT rS) (rs1 (rT (rP (rsC rS (rsC rS (rs1 (rT rS))))))))))).mono e6 h_p_due)
          have h_p_told := (((rP (rsC (rT rS) (rsC (rT rS) (rs1 (rT (rP (rsC rS (rsC rS (rs1 (rT rS))))))))))).mono e6 h_p_told)
          exact w_ret0 (K := K) e_bl hs hm fun r v G2 H2 hs2 hr2 hq => hq v G2 H2 hs2.fin hr2
        · have h_p_first := (((rP (rsC (rT rS) (rsC (rT rS) (rs1 (rT (rP (rsC rS (rsC rS (rs1 (rT rS))))))))))).mono e6 h_p_first)
          have h_p_second := (((rP (rsC (rT rS) (rsC (rT rS) (rs1 (rT (rP (rsC rS (rsC rS (rs1 (rT rS))))))))))).mono e6 h_p_second)
          have h_p_due := (((rP (rsC (rT rS) (rsC (rT rS) (rs1 (rT (rP (rsC rS (rsC rS (rs1 (rT rS))))))))))).mono e6 h_p_due)
          have h_p_told := (((rP (rsC (rT rS) (rsC (rT rS) (rs1 (rT (rP (rsC rS (rsC rS (rs1 (rT rS))))))))))).mono e6 h_p_told)
          refine nx_of ?_
          try dsimp only
          refine (show (_ : TS) _ ([some v_p_first, some v_p_second, some (.bl p_walk), some v_p_due, some v_p_told, none] : L2.St) _ from ?_)
          refine w_if (t_not (t_val (K := K) (e_var (K := K) (i := 2) (R := rB) (x := p_walk) rfl rfl))) hs hm (fun G7 H7 e7 hs hm => ?_) (fun G7 H7 e7 hs hm => ?_)
          · have h_p_first := (((rP (rsC (rT rS) (rsC (rT rS) (rs1 (rT (rP (rsC rS (rsC rS (rs1 (rT rS))))))))))).mono e7 h_p_first)
            have h_p_second := (((rP (rsC (rT rS) (rsC (rT rS) (rs1 (rT (rP (rsC rS (rsC rS (rs1 (rT rS))))))))))).mono e7 h_p_second)
            have h_p_due := (((rP (rsC (rT rS) (rsC (rT rS) (rs1 (rT (rP (rsC rS (rsC rS (rs1 (rT rS))))))))))).mono e7 h_p_due)
            have h_p_told := (((rP (rsC (rT rS) (rsC (rT rS) (rs1 (rT (rP (rsC rS (rsC rS (rs1 (rT rS))))))))))).mono e7 h_p_told)
            exact w_ret0 (K := K) e_bl hs hm fun r v G2 H2 hs2 hr2 hq => hq v G2 H2 hs2.fin hr2
          · have h_p_first := (((rP (rsC (rT rS) (rsC (rT rS) (rs1 (rT (rP (rsC rS (rsC rS (rs1 (rT rS))))))))))).mono e7 h_p_first)
            have h_p_second := (((rP (rsC (rT rS) (rsC (rT rS) (rs1 (rT (rP (rsC rS (rsC rS (rs1 (rT rS))))))))))).mono e7 h_p_second)
            have h_p_due := (((rP (rsC (rT rS) (rsC (rT rS) (rs1 (rT (rP (rsC rS (rsC rS (rs1 (rT rS))))))))))).mono e7 h_p_due)
            have h_p_told := (((rP (rsC (rT rS) (rsC (rT rS) (rs1 (rT (rP (rsC rS (rsC rS (rs1 (rT rS))))))))))).mono e7 h_p_told)
            refine nx_of ?_
            try dsimp only
            refine (show (_ : TS) _ ([some v_p_first, some v_p_second, some (.bl p_walk), some v_p_due, some v_p_told, none] : L2.St) _ from ?_)
            exact w_ret0 (K := K) (e_eqD (qP (qsC qI (qsC qI (qs1 (qT (qT (qP (qsC qI (qs1 qI))))))))) (by decide) (e_call (fm := ⟨H, G, E, cl⟩) (a_one (e_var (K := K) (i := 4) (R := (rP (rsC (rT rS) (rsC (rT rS) (rs1 (rT (rP (rsC rS (rsC rS (rs1 (rT rS))))))))))) (x := p_told) rfl h_p_told))) (e_call (fm := ⟨H, G, E, cl⟩) (a_cons (e_call (fm := ⟨H, G, E, cl⟩) (a_one (e_var (K := K) (i := 0) (R := (rP (rsC (rT rS) (rsC (rT rS) (rs1 (rT (rP (rsC rS (rsC rS (rs1 (rT rS))))))))))) (x := p_first) rfl h_p_first))) (a_one (e_call (fm := ⟨H, G, E, cl⟩) (a_one (e_var (K := K) (i := 1) (R := (rP (rsC (rT rS) (rsC (rT rS) (rs1 (rT (rP (rsC rS (rsC rS (rs1 (rT rS))))))))))) (x := p_second) rfl h_p_second))))))) hs hm fun r v G2 H2 hs2 hr2 hq => hq v G2 H2 hs2.fin hr2

theorem ok_law_right_tables {P : Program} {w : World} {K : PySem.W.Frag} {mg : Str → Option Value} {base : Heap} {cl : Nat → Addr} {fa : Addr} {fd : FuncData} (F : Fun K "_law_right_tables" "_law_right_tables" s_law_right_tables fa fd) (T : Txt K mg cl) (C_law_refused : Cal P w K mg base "_law_refused" 4 ["nets", "first", "second", "large"] (spP K cl (rsC rB (rsC (rU (rP (rsC (rT rS) (rsC (rT rS) (rs1 (rT (rP (rsC rS (rsC rS (rs1 (rT rS)))))))))) (rP (rsC zI (rsC zI (rs1 (rT (rT (rP (rsC zI (rs1 zI)))))))))) (rsC (rU (rP (rsC (rT rS) (rsC (rT rS) (rs1 (rT (rP (rsC rS (rsC rS (rs1 (rT rS)))))))))) (rP (rsC zI (rsC zI (rs1 (rT (rT (rP (rsC zI (rs1 zI)))))))))) (rs1 rB)))) rB (fun a => m_law_refused (a.1) (a.2.1) (a.2.2.1) (a.2.2.2)))) (C_law_same_table : Cal P w K mg base "_law_same_table" 2 ["actual", "expected"] (spP K cl (rsC (rP (rsC zI (rsC zI (rs1 (rT (rT (rP (rsC zI (rs1 zI))))))))) (rs1 (rP (rsC zI (rsC zI (rs1 (rT (rT (rP (rsC zI (rs1 zI))))))))))) rB (fun a => m_law_same_table (a.1) (a.2)))) (C_join_tables : Cal P w K mg base "join_tables" 2 ["first", "second"] (spP K cl (rsC (rP (rsC zI (rsC zI (rs1 (rT (rT (rP (rsC zI (rs1 zI))))))))) (rs1 (rP (rsC zI (rsC zI (rs1 (rT (rT (rP (rsC zI (rs1 zI))))))))))) (rP (rsC zI (rsC zI (rs1 (rT (rT (rP (rsC zI (rs1 zI))))))))) (fun a => m_join_tables (a.1) (a.2)))) (C_law_joined_tables : Cal P w K mg base "_law_joined_tables" 1 ["first", "second"] (spP K cl (rsC (rP (rsC zI (rsC zI (rs1 (rT (rT (rP (rsC zI (rs1 zI))))))))) (rs1 (rP (rsC zI (rsC zI (rs1 (rT (rT (rP (rsC zI (rs1 zI))))))))))) (rP (rsC zI (rsC zI (rs1 (rT (rT (rP (rsC zI (rs1 zI))))))))) (fun a => m_law_joined_tables (a.1) (a.2)))) :
    FnOk P w K mg base (L2.CX P w) 5 fa fd ["first", "second"] (spP K cl (rsC (rP (rsC zI (rsC zI (rs1 (rT (rT (rP (rsC zI (rs1 zI))))))))) (rs1 (rP (rsC zI (rsC zI (rs1 (rT (rT (rP (rsC zI (rs1 zI))))))))))) rB (fun a => m_law_right_tables (a.1) (a.2))) := by
  refine F.okX sc_law_right_tables (fun vs H Q E h => ?_) (fun cdv A outer s H vs Q E hr h => ?_)
  · obtain ⟨G, a, _, hS, _⟩ := h
    exact (lnC ln1) _ _ _ _ hS
  · obtain ⟨G, ⟨p_first, p_second⟩, hg, hS, hm⟩ := h
    obtain ⟨v_p_first, _, rfl, h_p_first, v_p_second, rfl, h_p_second⟩ := hS
    have tk : Takes (cxOf (L2.CX P w) P w K mg base N_law_right_tables "_law_right_tables" (defScope s_law_right_tables) fa cdv A outer s H E) (fun cls d _ H => E cls d H) := takes_of rfl rfl rfl rfl
    refine ⟨_, (pss_cons (ps_if (pt_cmpR op_ne (pe_ix (r := rIxT K) ix_tup (pv 0) pe_int (fun _ _ => rfl)) (pe_ix (r := rIxT K) ix_tup (pv 1) pe_int (fun _ _ => rfl)) (nomark _)) (pss_cons (ps_ret (pe_call (E := E) C_law_refused.ok (hr.mono (by decide)) rfl C_law_refused.mgx C_law_refused.kp C_law_refused.bd .nil (passes_call tk (fun _ _ _ _ h => h)) (pa_cons pe_bl (pa_cons (pv 0) (pa_cons (pv 1) (pa_cons pe_bl pa_nil))))))
     pss_nil) pss_nil)
     (pss_cons (ps_set (i := 2) sc_law_right_tables.nd rfl (by first | exact Or.inl rfl | exact Or.inr rfl) (pe_op op_mul (pe_callB (r := Mw.rLen K) call_len (by rfl) T.n_len b_len (pa_cons (pe_ix (r := rIxT K) ix_tup (pv 0) pe_int (fun _ _ => rfl)) pa_nil)) (pe_callB (r := Mw.rLen K) call_len (by rfl) T.n_len b_len (pa_cons (pe_ix (r := rIxT K) ix_tup (pv 1) pe_int (fun _ _ => rfl)) pa_nil))))
     (pss_cons (ps_if (PW.pt (pw_or (pt_cmpR op_gt (pv 2) pe_int (nomark _)) (pw_or1 (pt_cmpR op_gt (pe_op op_mul (pv 2) (pe_op op_shl pe_int (pe_ix (r := rIxT K) ix_tup (pv 0) pe_int (fun _ _ => rfl)))) pe_int (nomark _))))) (pss_cons (ps_ret (pe_call (E := E) C_law_refused.ok (hr.mono (by decide)) rfl C_law_refused.mgx C_law_refused.kp C_law_refused.bd .nil (passes_call tk (fun _ _ _ _ h => h)) (pa_cons pe_bl (pa_cons (pv 0) (pa_cons (pv 1) (pa_cons pe_bl pa_nil))))))
     pss_nil) pss_nil)
     (pss_cons (ps_ret (pe_call (E := E) C_law_same_table.ok (hr.mono (by decide)) rfl C_law_same_table.mgx C_law_same_table.kp C_law_same_table.bd .nil (passes_call tk (fun _ _ _ _ h => h)) (pa_cons (pe_call (E := E) C_join_tables.ok (hr.mono (by decide)) rfl C_join_tables.mgx C_join_tables.kp C_join_tables.bd .nil (passes_call tk (fun _ _ _ _ h => h)) (pa_cons (pv 0) (pa_cons (pv 1) pa_nil))) (pa_cons (pe_call (E := E) C_law_joined_tables.ok (hr.mono (by decide)) rfl C_law_joined_tables.mgx C_law_joined_tables.kp C_law_joined_tables.bd .nil (passes_call tk (fun _ _ _ _ h => h)) (pa_cons (pv 0) (pa_cons (pv 1) pa_nil))) pa_nil))))
     pss_nil)))), ?_⟩
    have hs : Hs ⟨H, G, E, cl⟩ G [] H := Hs.start hg
    have hm := Wp.ofSp (G0 := G) hm
    try dsimp only at hm
    unfold m_law_right_tables at hm
    refine (show (_ : TS) _ ([some v_p_first, some v_p_second, none] : L2.St) _ from ?_)
    refine w_if (t_test (K := K) (e_ne srI (e_proj (k := 1) (pjS pj0) (e_var (K := K) (i := 0) (R := (rP (rsC zI (rsC zI (rs1 (rT (rT (rP (rsC zI (rs1 zI)))))))))) (x := p_first) rfl h_p_first)) (e_proj (k := 0) pj0 (e_var (K := K) (i := 1) (R := (rP (rsC zI (rsC zI (rs1 (rT (rT (rP (rsC zI (rs1 zI)))))))))) (x := p_second) rfl h_p_second)))) hs hm (fun G1 H1 e1 hs hm => ?_) (fun G1 H1 e1 hs hm => ?_)
    · have h_p_first := (((rP (rsC zI (rsC zI (rs1 (rT (rT (rP (rsC zI (rs1 zI)))))))))).mono e1 h_p_first)
      have h_p_second := (((rP (rsC zI (rsC zI (rs1 (rT (rT (rP (rsC zI (rs1 zI)))))))))).mono e1 h_p_second)
      exact w_ret0 (K := K) (e_call (fm := ⟨H, G, E, cl⟩) (a_cons e_bl (a_cons (e_inr (R := (rP (rsC (rT rS) (rsC (rT rS) (rs1 (rT (rP (rsC rS (rsC rS (rs1 (rT rS))))))))))) (S := (rP (rsC zI (rsC zI (rs1 (rT (rT (rP (rsC zI (rs1 zI)))))))))) (e_var (K := K) (i := 0) (R := (rP (rsC zI (rsC zI (rs1 (rT (rT (rP (rsC zI (rs1 zI)))))))))) (x := p_first) rfl h_p_first)) (a_cons (e_inr (R := (rP (rsC (rT rS) (rsC (rT rS) (rs1 (rT (rP (rsC rS (rsC rS (rs1 (rT rS))))))))))) (S := (rP (rsC zI (rsC zI (rs1 (rT (rT (rP (rsC zI (rs1 zI)))))))))) (e_var (K := K) (i := 1) (R := (rP (rsC zI (rsC zI (rs1 (rT (rT (rP (rsC zI (rs1 zI)))))))))) (x := p_second) rfl h_p_second)) (a_one e_bl))))) hs hm fun r v G2 H2 hs2 hr2 hq => hq v G2 H2 hs2.fin hr2
    · have h_p_first := (((rP (rsC zI (rsC zI (rs1 (rT (rT (rP (rsC zI (rs1 zI)))))))))).mono e1 h_p_first)
      have h_p_second := (((rP (rsC zI (rsC zI (rs1 (rT (rT (rP (rsC zI (rs1 zI)))))))))).mono e1 h_p_second)
      refine nx_of ?_
      try dsimp only
      refine (show (_ : TS) _ ([some v_p_first, some v_p_second, none] : L2.St) _ from ?_)
      refine w_asg (K := K) (tg_name (i := 2) (R := zI)) (e_mul (e_len sq_T (e_proj (k := 2) (pjS (pjS pj1)) (e_var (K := K) (i := 0) (R := (rP (rsC zI (rsC zI (rs1 (rT (rT (rP (rsC zI (rs1 zI)))))))))) (x := p_first) rfl h_p_first))) (e_len sq_T (e_proj (k := 2) (pjS (pjS pj1)) (e_var (K := K) (i := 1) (R := (rP (rsC zI (rsC zI (rs1 (rT (rT (rP (rsC zI (rs1 zI)))))))))) (x := p_second) rfl h_p_second)))) hs hm (fun p_states vv2 G2 H2 e2 hs hv2 hm => ?_)
      obtain ⟨v_p_states, rfl, h_p_states⟩ := hv2
      cases (show v_p_states = V.int p_states from h_p_states)
      have h_p_first := (((rP (rsC zI (rsC zI (rs1 (rT (rT (rP (rsC zI (rs1 zI)))))))))).mono e2 h_p_first)
      have h_p_second := (((rP (rsC zI (rsC zI (rs1 (rT (rT (rP (rsC zI (rs1 zI)))))))))).mono e2 h_p_second)
      refine (show (_ : TS) _ ([some v_p_first, some v_p_second, some (.int p_states)] : L2.St) _ from ?_)
      refine w_if (t_or (t_test (K := K) (e_cmp (p := fun i j => decide (j < i)) (e_var (K := K) (i := 2) (R := zI) (x := p_states) rfl rfl) e_int)) (t_test (K := K) (e_cmp (p := fun i j => decide (j < i)) (e_mul (e_var (K := K) (i := 2) (R := zI) (x := p_states) rfl rfl) (e_shl e_int (e_proj (k := 0) pj0 (e_var (K := K) (i := 0) (R := (rP (rsC zI (rsC zI (rs1 (rT (rT (rP (rsC zI (rs1 zI)))))))))) (x := p_first) rfl h_p_first)))) e_int))) hs hm (fun G3 H3 e3 hs hm => ?_) (fun G3 H3 e3 hs hm => ?_)
      · have h_p_first := (((rP (rsC zI (rsC zI (rs1 (rT (rT (rP (rsC zI (rs1 zI)))))))))).mono e3 h_p_first)
        have h_p_second := (((rP (rsC zI (rsC zI (rs1 (rT (rT (rP (rsC zI (rs1 zI)))))))))).mono e3 h_p_second)
        exact w_ret0 (K := K) (e_call (fm := ⟨H, G, E, cl⟩) (a_cons e_bl (a_cons (e_inr (R := (rP (rsC (rT rS) (rsC (rT rS) (rs1 (rT (rP (rsC rS (rsC rS (rs1 (rT rS))))))))))) (S := (rP (rsC zI (rsC zI (rs1 (rT (rT (rP (rsC zI (rs1 zI)))))))))) (e_var (K := K) (i := 0) (R := (rP (rsC zI (rsC zI (rs1 (rT (rT (rP (rsC zI (rs1 zI)))))))))) (x := p_first) rfl h_p_first)) (a_cons (e_inr (R := (rP (rsC (rT rS) (rsC (rT rS) (rs1 (rT (rP (rsC rS (rsC rS (rs1 (rT rS))))))))))) (S := (rP (rsC zI (rsC zI (rs1 (rT (rT (rP (rsC zI (rs1 zI)))))))))) (e_var (K := K) (i := 1) (R := (rP (rsC zI (rsC zI (rs1 (rT (rT (rP (rsC zI (rs1 zI)))))))))) (x := p_second) rfl h_p_second)) (a_one e_bl))))) hs hm fun r v G2 H2 hs2 hr2 hq => hq v G2 H2 hs2.fin hr2
      · have h_p_first := (((rP (rsC zI (rsC zI (rs1 (rT (rT (rP (rsC zI (rs1 zI)))))))))).mono e3 h_p_first)
        have h_p_second := (((rP (rsC zI (rsC zI (rs1 (rT (rT (rP (rsC zI (rs1 zI)))))))))).mono e3 h_p_second)
        refine nx_of ?_
        try dsimp only
        refine (show (_ : TS) _ ([some v_p_first, some v_p_second, some (.int p_states)] : L2.St) _ from ?_)
        exact w_ret0 (K := K) (e_call (fm := ⟨H, G, E, cl⟩) (a_cons (e_call (fm := ⟨H, G, E, cl⟩) (a_cons (e_var (K := K) (i := 0) (R := (rP (rsC zI (rsC zI (rs1 (rT (rT (rP (rsC zI (rs1 zI)))))))))) (x := p_first) rfl h_p_first) (a_one (e_var (K := K) (i := 1) (R := (rP (rsC zI (rsC zI (rs1 (rT (rT (rP (rsC zI (rs1 zI)))))))))) (x := p_second) rfl h_p_second)))) (a_one (e_call (fm := ⟨H, G, E, cl⟩) (a_cons (e_var (K := K) (i := 0) (R := (rP (rsC zI (rsC zI (rs1 (rT (rT (rP (rsC zI (rs1 zI)))))))))) (x := p_first) rfl h_p_first) (a_one (e_var (K := K) (i := 1) (R := (rP (rsC zI (rsC zI (rs1 (rT (rT (rP (rsC zI (rs1 zI)))))))))) (x := p_second) rfl h_p_second))))))) hs hm fun r v G2 H2 hs2 hr2 hq => hq v G2 H2 hs2.fin hr2

theorem ok_law {P : Program} {w : World} {K : PySem.W.Frag} {mg : Str → Option Value} {base : Heap} {cl : Nat → Addr} {fa : Addr} {fd : FuncData} (F : Fun K "law" "law" s_law fa fd) (T : Txt K mg cl) (C_law_parts : Cal P w K mg base "_law_parts" 1 ["cell", "sizes"] (spP K cl (rsC zI (rs1 (rK zI))) (rK zI) (fun a => m_law_parts (a.1) (a.2)))) (C_law_far : Cal P w K mg base "_law_far" 1 ["script", "k"] (spP K cl (rsC (rL zI) (rs1 zI)) zI (fun a => m_law_far (a.1) (a.2)))) (C_law_netlist : Cal P w K mg base "_law_netlist" 2 ["script", "at", "sizes"] (spP K cl (rsC (rL zI) (rsC zI (rs1 (rK zI)))) (rP (rsC (rT rS) (rsC (rT rS) (rs1 (rT (rP (rsC rS (rsC rS (rs1 (rT rS)))))))))) (fun a => m_law_netlist (a.1) (a.2.1) (a.2.2)))) (C_law_right_tables : Cal P w K mg base "_law_right_tables" 5 ["first", "second"] (spP K cl (rsC (rP (rsC zI (rsC zI (rs1 (rT (rT (rP (rsC zI (rs1 zI))))))))) (rs1 (rP (rsC zI (rsC zI (rs1 (rT (rT (rP (rsC zI (rs1 zI))))))))))) rB (fun a => m_law_right_tables (a.1) (a.2)))) (C_law_net_table : Cal P w K mg base "_law_net_table" 3 ["netlist"] (spP K cl (rs1 (rP (rsC (rT rS) (rsC (rT rS) (rs1 (rT (rP (rsC rS (rsC rS (rs1 (rT rS))))))))))) (rP (rsC zI (rsC zI (rs1 (rT (rT (rP (rsC zI (rs1 zI))))))))) (fun a => m_law_net_table a))) (C_law_drawn : Cal P w K mg base "_law_drawn" 2 ["script", "at", "inputs", "outputs", "states"] (spP K cl (rsC (rL zI) (rsC zI (rsC zI (rsC zI (rs1 zI))))) (rP (rsC zI (rsC zI (rs1 (rT (rT (rP (rsC zI (rs1 zI))))))))) (fun a => m_law_drawn (a.1) (a.2.1) (a.2.2.1) (a.2.2.2.1) (a.2.2.2.2)))) (C_law_right_netlists : Cal P w K mg base "_law_right_netlists" 5 ["first", "second", "walk"] (spP K cl (rsC (rP (rsC (rT rS) (rsC (rT rS) (rs1 (rT (rP (rsC rS (rsC rS (rs1 (rT rS)))))))))) (rsC (rP (rsC (rT rS) (rsC (rT rS) (rs1 (rT (rP (rsC rS (rsC rS (rs1 (rT rS)))))))))) (rs1 rB))) rB (fun a => m_law_right_netlists (a.1) (a.2.1) (a.2.2)))) (C_law_padded : Cal P w K mg base "_law_padded" 1 ["netlist", "count"] (spP K cl (rsC (rP (rsC (rT rS) (rsC (rT rS) (rs1 (rT (rP (rsC rS (rsC rS (rs1 (rT rS)))))))))) (rs1 zI)) (rP (rsC (rT rS) (rsC (rT rS) (rs1 (rT (rP (rsC rS (rsC rS (rs1 (rT rS)))))))))) (fun a => m_law_padded (a.1) (a.2)))) :
    FnOk P w K mg base (L2.CX P w) 6 fa fd ["script"] (spP K cl (rs1 (rL zI)) rB (fun a => m_law a)) := by
  refine F.okX sc_law (fun vs H Q E h => ?_) (fun cdv A outer s H vs Q E hr h => ?_)
  · obtain ⟨G, a, _, hS, _⟩ := h
    exact ln1 _ _ _ _ hS
  · obtain ⟨G, p_script, hg, hS, hm⟩ := h
    obtain ⟨v_p_script, rfl, h_p_script⟩ := hS
    have tk : Takes (cxOf (L2.CX P w) P w K mg base N_law "law" (defScope s_law) fa cdv A outer s H E) (fun cls d _ H => E cls d H) := takes_of rfl rfl rfl rfl
    refine ⟨_, (pss_cons (ps_set (i := 1) sc_law.nd rfl (by first | exact Or.inl rfl | exact Or.inr rfl) (pe_call (E := E) C_law_parts.ok (hr.mono (by decide)) rfl C_law_parts.mgx C_law_parts.kp C_law_parts.bd .nil (passes_call tk (fun _ _ _ _ h => h)) (pa_cons (pe_call (E := E) C_law_far.ok (hr.mono (by decide)) rfl C_law_far.mgx C_law_far.kp C_law_far.bd .nil (passes_call tk (fun _ _ _ _ h => h)) (pa_cons (pv 0) (pa_cons pe_int pa_nil))) (pa_cons (pe_lst (pa_cons pe_int (pa_cons pe_int (pa_cons pe_int (pa_cons pe_int (pa_cons pe_int (pa_cons pe_int (pa_cons pe_int (pa_cons pe_int (pa_cons pe_int (pa_cons pe_int (pa_cons pe_int pa_nil)))))))))))) pa_nil))))
     (pss_cons (ps_set (i := 2) sc_law.nd rfl (by first | exact Or.inl rfl | exact Or.inr rfl) (pe_call (E := E) C_law_parts.ok (hr.mono (by decide)) rfl C_law_parts.mgx C_law_parts.kp C_law_parts.bd .nil (passes_call tk (fun _ _ _ _ h => h)) (pa_cons (pe_call (E := E) C_law_far.ok (hr.mono (by decide)) rfl C_law_far.mgx C_law_far.kp C_law_far.bd .nil (passes_call tk (fun _ _ _ _ h => h)) (pa_cons (pv 0) (pa_cons pe_int pa_nil))) (pa_cons (pe_lst (pa_cons pe_int (pa_cons pe_int (pa_cons pe_int (pa_cons pe_int (pa_cons pe_int (pa_cons pe_int pa_nil))))))) pa_nil))))
     (pss_cons (ps_set (i := 3) sc_law.nd rfl (by first | exact Or.inl rfl | exact Or.inr rfl) (pe_call (E := E) C_law_netlist.ok (hr.mono (by decide)) rfl C_law_netlist.mgx C_law_netlist.kp C_law_netlist.bd .nil (passes_call tk (fun _ _ _ _ h => h)) (pa_cons (pv 0) (pa_cons pe_int (pa_cons (pe_lst (pa_cons (pe_ix (r := rIxL K) ix_list (pv 1) pe_int (fun _ _ => rfl)) (pa_cons (pe_ix (r := rIxL K) ix_list (pv 1) pe_int (fun _ _ => rfl)) (pa_cons (pe_op op_add pe_int (pe_ix (r := rIxL K) ix_list (pv 1) pe_int (fun _ _ => rfl))) (pa_cons (pe_op op_add pe_int (pe_ix (r := rIxL K) ix_list (pv 1) pe_int (fun _ _ => rfl))) pa_nil))))) pa_nil)))))
     (pss_cons (ps_set (i := 4) sc_law.nd rfl (by first | exact Or.inl rfl | exact Or.inr rfl) (pe_op op_add (pe_op op_add pe_int (pe_ix (r := rIxL K) ix_list (pv 1) pe_int (fun _ _ => rfl))) (pe_callTy call_int1 (by rfl) T.n_int b_int (pa_cons (pe_cmpR op_eq (pe_ix (r := rIxL K) ix_list (pv 1) pe_int (fun _ _ => rfl)) pe_int (nomark _)) pa_nil))))
     (pss_cons (ps_set (i := 5) sc_law.nd rfl (by first | exact Or.inl rfl | exact Or.inr rfl) (pe_call (E := E) C_law_netlist.ok (hr.mono (by decide)) rfl C_law_netlist.mgx C_law_netlist.kp C_law_netlist.bd .nil (passes_call tk (fun _ _ _ _ h => h)) (pa_cons (pv 0) (pa_cons pe_int (pa_cons (pe_lst (pa_cons (pv 4) (pa_cons (pe_ix (r := rIxL K) ix_list (pv 1) pe_int (fun _ _ => rfl)) (pa_cons (pe_op op_add pe_int (pe_ix (r := rIxL K) ix_list (pv 1) pe_int (fun _ _ => rfl))) (pa_cons (pe_op op_add pe_int (pe_ix (r := rIxL K) ix_list (pv 1) pe_int (fun _ _ => rfl))) pa_nil))))) pa_nil)))))
     (pss_cons (ps_if (pt_cmpR op_eq (pe_ix (r := rIxL K) ix_list (pv 1) pe_int (fun _ _ => rfl)) pe_int (nomark _)) (pss_cons (ps_set (i := 6) sc_law.nd rfl (by first | exact Or.inl rfl | exact Or.inr rfl) (pe_op op_sub (pe_op op_sub (pe_op op_add pe_int (pe_ix (r := rIxL K) ix_list (pv 1) pe_int (fun _ _ => rfl))) (pe_callB (r := Mw.rLen K) call_len (by rfl) T.n_len b_len (pa_cons (pe_ix (r := rIxT K) ix_tup (pv 3) pe_int (fun _ _ => rfl)) pa_nil))) (pe_callB (r := Mw.rLen K) call_len (by rfl) T.n_len b_len (pa_cons (pe_ix (r := rIxT K) ix_tup (pv 5) pe_int (fun _ _ => rfl)) pa_nil))))
     (pss_cons (ps_set (i := 7) sc_law.nd rfl (by first | exact Or.inl rfl | exact Or.inr rfl) (pe_callB (r := rNuC3 nuMin3) (call_min3Nu rfl) (by rfl) T.n_min b_min (pa_cons (pv 6) (pa_cons (pe_ix (r := rIxL K) ix_list (pv 2) pe_int (fun _ _ => rfl)) (pa_cons (pe_op op_sub pe_int (pe_callB (r := Mw.rLen K) call_len (by rfl) T.n_len b_len (pa_cons (pe_ix (r := rIxT K) ix_tup (pv 3) pe_int (fun _ _ => rfl)) pa_nil))) pa_nil)))))
     (pss_cons (ps_set (i := 8) sc_law.nd rfl (by first | exact Or.inl rfl | exact Or.inr rfl) (pe_callB (r := rMn2) (call_min2 rfl) (by rfl) T.n_min b_min (pa_cons (pe_op op_sub (pv 6) (pv 7)) (pa_cons (pe_op op_sub pe_int (pe_callB (r := Mw.rLen K) call_len (by rfl) T.n_len b_len (pa_cons (pe_ix (r := rIxT K) ix_tup (pv 5) pe_int (fun _ _ => rfl)) pa_nil))) pa_nil))))
     (pss_cons (ps_if (pt_not (pt_val (pe_call (E := E) C_law_right_netlists.ok (hr.mono (by decide)) rfl C_law_right_netlists.mgx C_law_right_netlists.kp C_law_right_netlists.bd .nil (passes_call tk (fun _ _ _ _ h => h)) (pa_cons (pe_call (E := E) C_law_padded.ok (hr.mono (by decide)) rfl C_law_padded.mgx C_law_padded.kp C_law_padded.bd .nil (passes_call tk (fun _ _ _ _ h => h)) (pa_cons (pv 3) (pa_cons (pe_op op_sub (pv 6) (pv 8)) pa_nil))) (pa_cons (pe_call (E := E) C_law_padded.ok (hr.mono (by decide)) rfl C_law_padded.mgx C_law_padded.kp C_law_padded.bd .nil (passes_call tk (fun _ _ _ _ h => h)) (pa_cons (pv 5) (pa_cons (pv 8) pa_nil))) (pa_cons pe_bl pa_nil)))))) (pss_cons (ps_ret pe_bl)
     pss_nil) pss_nil)
     pss_nil)))) (pss_cons (ps_if (pt_not (pt_val (pe_call (E := E) C_law_right_netlists.ok (hr.mono (by decide)) rfl C_law_right_netlists.mgx C_law_right_netlists.kp C_law_right_netlists.bd .nil (passes_call tk (fun _ _ _ _ h => h)) (pa_cons (pv 3) (pa_cons (pv 5) (pa_cons pe_bl pa_nil)))))) (pss_cons (ps_ret pe_bl)
     pss_nil) pss_nil)
     pss_nil))
     (pss_cons (ps_if (pt_cmpR op_ne (pe_ix (r := rIxL K) ix_list (pv 1) pe_int (fun _ _ => rfl)) pe_int (nomark _)) (pss_cons (ps_ret (pe_call (E := E) C_law_right_tables.ok (hr.mono (by decide)) rfl C_law_right_tables.mgx C_law_right_tables.kp C_law_right_tables.bd .nil (passes_call tk (fun _ _ _ _ h => h)) (pa_cons (pe_call (E := E) C_law_net_table.ok (hr.mono (by decide)) rfl C_law_net_table.mgx C_law_net_table.kp C_law_net_table.bd .nil (passes_call tk (fun _ _ _ _ h => h)) (pa_cons (pv 3) pa_nil)) (pa_cons (pe_call (E := E) C_law_net_table.ok (hr.mono (by decide)) rfl C_law_net_table.mgx C_law_net_table.kp C_law_net_table.bd .nil (passes_call tk (fun _ _ _ _ h => h)) (pa_cons (pv 5) pa_nil)) pa_nil))))
     pss_nil) pss_nil)
     (pss_cons (ps_set (i := 9) sc_law.nd rfl (by first | exact Or.inl rfl | exact Or.inr rfl) (pe_call (E := E) C_law_drawn.ok (hr.mono (by decide)) rfl C_law_drawn.mgx C_law_drawn.kp C_law_drawn.bd .nil (passes_call tk (fun _ _ _ _ h => h)) (pa_cons (pv 0) (pa_cons pe_int (pa_cons (pe_ix (r := rIxL K) ix_list (pv 2) pe_int (fun _ _ => rfl)) (pa_cons (pe_op op_add pe_int (pe_ix (r := rIxL K) ix_list (pv 2) pe_int (fun _ _ => rfl))) (pa_cons (pe_op op_add pe_int (pe_ix (r := rIxL K) ix_list (pv 2) pe_int (fun _ _ => rfl))) pa_nil)))))))
     (pss_cons (ps_ret (pe_call (E := E) C_law_right_tables.ok (hr.mono (by decide)) rfl C_law_right_tables.mgx C_law_right_tables.kp C_law_right_tables.bd .nil (passes_call tk (fun _ _ _ _ h => h)) (pa_cons (pv 9) (pa_cons (pe_call (E := E) C_law_drawn.ok (hr.mono (by decide)) rfl C_law_drawn.mgx C_law_drawn.kp C_law_drawn.bd .nil (passes_call tk (fun _ _ _ _ h => h)) (pa_cons (pv 0) (pa_cons pe_int (pa_cons (pe_op op_add (pe_op op_add pe_int (pe_ix (r := rIxL K) ix_list (pv 2) pe_int (fun _ _ => rfl))) (pe_callTy call_int1 (by rfl) T.n_int b_int (pa_cons (pe_cmpR op_eq (pe_ix (r := rIxL K) ix_list (pv 1) pe_int (fun _ _ => rfl)) pe_int (nomark _)) pa_nil))) (pa_cons (pe_op op_add pe_int (pe_ix (r := rIxL K) ix_list (pv 2) pe_int (fun _ _ => rfl))) (pa_cons (pe_op op_add pe_int (pe_ix (r := rIxL K) ix_list (pv 2) pe_int (fun _ _ => rfl))) pa_nil)))))) pa_nil))))
     pss_nil))))))))), ?_⟩
    have hs : Hs ⟨H, G, E, cl⟩ G [] H := Hs.start hg
    have hm := Wp.ofSp (G0 := G) hm
    try dsimp only at hm
    unfold m_law at hm
    refine (show (_ : TS) _ ([some v_p_script, none, none, none, none, none, none, none, none, none] : L2.St) _ from ?_)
    refine w_asg (K := K) (tg_name (i := 1) (R := (rK zI))) (e_call (fm := ⟨H, G, E, cl⟩) (a_cons (e_call (fm := ⟨H, G, E, cl⟩) (a_cons (e_var (K := K) (i := 0) (R := (rL zI)) (x := p_script) rfl h_p_script) (a_one e_int))) (a_one (EvN.evK (e_lst (l_cons e_int (l_cons e_int (l_cons e_int (l_cons e_int (l_cons e_int (l_cons e_int (l_cons e_int (l_cons e_int (l_cons e_int (l_cons e_int (l_cons e_int l_nil))))))))))) (by decide)))))) hs hm (fun p_head vv1 G1 H1 e1 hs hv1 hm => ?_)
    obtain ⟨v_p_head, rfl, h_p_head⟩ := hv1
    have h_p_script := (((rL zI)).mono e1 h_p_script)
    refine (show (_ : TS) _ ([some v_p_script, some v_p_head, none, none, none, none, none, none, none, none] : L2.St) _ from ?_)
    refine w_asg (K := K) (tg_name (i := 2) (R := (rK zI))) (e_call (fm := ⟨H, G, E, cl⟩) (a_cons (e_call (fm := ⟨H, G, E, cl⟩) (a_cons (e_var (K := K) (i := 0) (R := (rL zI)) (x := p_script) rfl h_p_script) (a_one e_int))) (a_one (EvN.evK (e_lst (l_cons e_int (l_cons e_int (l_cons e_int (l_cons e_int (l_cons e_int (l_cons e_int l_nil)))))) (by decide)))))) hs hm (fun p_more vv2 G2 H2 e2 hs hv2 hm => ?_)
    obtain ⟨v_p_more, rfl, h_p_more⟩ := hv2
    have h_p_script := (((rL zI)).mono e2 h_p_script)
    have h_p_head := (((rK zI)).mono e2 h_p_head)
    refine (show (_ : TS) _ ([some v_p_script, some v_p_head, some v_p_more, none, none, none, none, none, none, none] : L2.St) _ from ?_)
    refine w_asg (K := K) (tg_name (i := 3) (R := (rP (rsC (rT rS) (rsC (rT rS) (rs1 (rT (rP (rsC rS (rsC rS (rs1 (rT rS)))))))))))) (e_call (fm := ⟨H, G, E, cl⟩) (a_cons (e_var (K := K) (i := 0) (R := (rL zI)) (x := p_script) rfl h_p_script) (a_cons e_int (a_one (EvN.evK (e_lst (l_cons (e_ixL (e_KL (e_var (K := K) (i := 1) (R := (rK zI)) (x := p_head) rfl h_p_head)) e_int) (l_cons (e_ixL (e_KL (e_var (K := K) (i := 1) (R := (rK zI)) (x := p_head) rfl h_p_head)) e_int) (l_cons (e_add e_int (e_ixL (e_KL (e_var (K := K) (i := 1) (R := (rK zI)) (x := p_head) rfl h_p_head)) e_int)) (l_cons (e_add e_int (e_ixL (e_KL (e_var (K := K) (i := 1) (R := (rK zI)) (x := p_head) rfl h_p_head)) e_int)) l_nil)))) (by decide))))))) hs hm (fun p_one vv3 G3 H3 e3 hs hv3 hm => ?_)
    obtain ⟨v_p_one, rfl, h_p_one⟩ := hv3
    have h_p_script := (((rL zI)).mono e3 h_p_script)
    have h_p_head := (((rK zI)).mono e3 h_p_head)
    have h_p_more := (((rK zI)).mono e3 h_p_more)
    refine (show (_ : TS) _ ([some v_p_script, some v_p_head, some v_p_more, some v_p_one, none, none, none, none, none, none] : L2.St) _ from ?_)
    refine w_asg (K := K) (tg_name (i := 4) (R := zI)) (e_add (e_add e_int (e_ixL (e_KL (e_var (K := K) (i := 1) (R := (rK zI)) (x := p_head) rfl h_p_head)) e_int)) (e_intB (e_eq srI (e_ixL (e_KL (e_var (K := K) (i := 1) (R := (rK zI)) (x := p_head) rfl h_p_head)) e_int) e_int))) hs hm (fun p_inputs vv4 G4 H4 e4 hs hv4 hm => ?_)
    obtain ⟨v_p_inputs, rfl, h_p_inputs⟩ := hv4
    cases (show v_p_inputs = V.int p_inputs from h_p_inputs)
    have h_p_script := (((rL zI)).mono e4 h_p_script)
    have h_p_head := (((rK zI)).mono e4 h_p_head)
    have h_p_more := (((rK zI)).mono e4 h_p_more)
    have h_p_one := (((rP (rsC (rT rS) (rsC (rT rS) (rs1 (rT (rP (rsC rS (rsC rS (rs1 (rT rS))))))))))).mono e4 h_p_one)
    refine (show (_ : TS) _ ([some v_p_script, some v_p_head, some v_p_more, some v_p_one, some (.int p_inputs), none, none, none, none, none] : L2.St) _ from ?_)
    refine w_asg (K := K) (tg_name (i := 5) (R := (rP (rsC (rT rS) (rsC (rT rS) (rs1 (rT (rP (rsC rS (rsC rS (rs1 (rT rS)))))))))))) (e_call (fm := ⟨H, G, E, cl⟩) (a_cons (e_var (K := K) (i := 0) (R := (rL zI)) (x := p_script) rfl h_p_script) (a_cons e_int (a_one (EvN.evK (e_lst (l_cons (e_var (K := K) (i := 4) (R := zI) (x := p_inputs) rfl rfl) (l_cons (e_ixL (e_KL (e_var (K := K) (i := 1) (R := (rK zI)) (x := p_head) rfl h_p_head)) e_int) (l_cons (e_add e_int (e_ixL (e_KL (e_var (K := K) (i := 1) (R := (rK zI)) (x := p_head) rfl h_p_head)) e_int)) (l_cons (e_add e_int (e_ixL (e_KL (e_var (K := K) (i := 1) (R := (rK zI)) (x := p_head) rfl h_p_head)) e_int)) l_nil)))) (by decide))))))) hs hm (fun p_two vv5 G5 H5 e5 hs hv5 hm => ?_)
    obtain ⟨v_p_two, rfl, h_p_two⟩ := hv5
    have h_p_script := (((rL zI)).mono e5 h_p_script)
    have h_p_head := (((rK zI)).mono e5 h_p_head)
    have h_p_more := (((rK zI)).mono e5 h_p_more)
    have h_p_one := (((rP (rsC (rT rS) (rsC (rT rS) (rs1 (rT (rP (rsC rS (rsC rS (rs1 (rT rS))))))))))).mono e5 h_p_one)
    refine (show (_ : TS) _ ([some v_p_script, some v_p_head, some v_p_more, some v_p_one, some (.int p_inputs), some v_p_two, none, none, none, none] : L2.St) _ from ?_)
    refine w_ifJ (k := fun s_ => (m_law_j7 p_script p_head p_more p_one p_two s_)) (fun (_ : Unit) (σ : L2.St) (G : Hp) (O : Own) => ∃ (d_6 : Option V) (d_7 : Option V) (d_8 : Option V), σ = [some v_p_script, some v_p_head, some v_p_more, some v_p_one, some (.int p_inputs), some v_p_two, d_6, d_7, d_8, none] ∧ O = []) (t_test (K := K) (e_eq srI (e_ixL (e_KL (e_var (K := K) (i := 1) (R := (rK zI)) (x := p_head) rfl h_p_head)) e_int) e_int)) hs hm (fun s_ σ_ G1_6 G6 O_ H6 e6 w_ e16 hs hm => ?_) (fun G6 H6 J6 e6 hs hm => ?_) (fun G6 H6 J6 e6 hs hm => ?_)
    · obtain ⟨d_6, d_7, d_8, rfl, rfl⟩ := w_
      have h_p_script := (((rL zI)).mono e6 h_p_script)
      have h_p_head := (((rK zI)).mono e6 h_p_head)
      have h_p_more := (((rK zI)).mono e6 h_p_more)
      have h_p_one := (((rP (rsC (rT rS) (rsC (rT rS) (rs1 (rT (rP (rsC rS (rsC rS (rs1 (rT rS))))))))))).mono e6 h_p_one)
      have h_p_two := (((rP (rsC (rT rS) (rsC (rT rS) (rs1 (rT (rP (rsC rS (rsC rS (rs1 (rT rS))))))))))).mono e6 h_p_two)
      refine (show (_ : TS) _ ([some v_p_script, some v_p_head, some v_p_more, some v_p_one, some (.int p_inputs), some v_p_two, d_6, d_7, d_8, none] : L2.St) _ from ?_)
      unfold m_law_j7 at hm
      try dsimp only at hm
      refine w_if (t_test (K := K) (e_ne srI (e_ixL (e_KL (e_var (K := K) (i := 1) (R := (rK zI)) (x := p_head) rfl h_p_head)) e_int) e_int)) hs hm (fun G8 H8 e8 hs hm => ?_) (fun G8 H8 e8 hs hm => ?_)
      · have h_p_script := (((rL zI)).mono e8 h_p_script)
        have h_p_head := (((rK zI)).mono e8 h_p_head)
        have h_p_more := (((rK zI)).mono e8 h_p_more)
        have h_p_one := (((rP (rsC (rT rS) (rsC (rT rS) (rs1 (rT (rP (rsC rS (rsC rS (rs1 (rT rS))))))))))).mono e8 h_p_one)
        have h_p_two := (((rP (rsC (rT rS) (rsC (rT rS) (rs1 (rT (rP (rsC rS (rsC rS (rs1 (rT rS))))))))))).mono e8 h_p_two)
        exact w_ret0 (K := K) (e_call (fm := ⟨H, G, E, cl⟩) (a_cons (e_call (fm := ⟨H, G, E, cl⟩) (a_one (e_var (K := K) (i := 3) (R := (rP (rsC (rT rS) (rsC (rT rS) (rs1 (rT (rP (rsC rS (rsC rS (rs1 (rT rS))))))))))) (x := p_one) rfl h_p_one))) (a_one (e_call (fm := ⟨H, G, E, cl⟩) (a_one (e_var (K := K) (i := 5) (R := (rP (rsC (rT rS) (rsC (rT rS) (rs1 (rT (rP (rsC rS (rsC rS (rs1 (rT rS))))))))))) (x := p_two) rfl h_p_two)))))) hs hm fun r v G2 H2 hs2 hr2 hq => hq v G2 H2 hs2.fin hr2
      · have h_p_script := (((rL zI)).mono e8 h_p_script)
        have h_p_head := (((rK zI)).mono e8 h_p_head)
        have h_p_more := (((rK zI)).mono e8 h_p_more)
        have h_p_one := (((rP (rsC (rT rS) (rsC (rT rS) (rs1 (rT (rP (rsC rS (rsC rS (rs1 (rT rS))))))))))).mono e8 h_p_one)
        have h_p_two := (((rP (rsC (rT rS) (rsC (rT rS) (rs1 (rT (rP (rsC rS (rsC rS (rs1 (rT rS))))))))))).mono e8 h_p_two)
        refine nx_of ?_
        try dsimp only
        refine (show (_ : TS) _ ([some v_p_script, some v_p_head, some v_p_more, some v_p_one, some (.int p_inputs), some v_p_two, d_6, d_7, d_8, none] : L2.St) _ from ?_)
        refine w_asg (K := K) (tg_name (i := 9) (R := (rP (rsC zI (rsC zI (rs1 (rT (rT (rP (rsC zI (rs1 zI))))))))))) (e_call (fm := ⟨H, G, E, cl⟩) (a_cons (e_var (K := K) (i := 0) (R := (rL zI)) (x := p_script) rfl h_p_script) (a_cons e_int (a_cons (e_ixL (e_KL (e_var (K := K) (i := 2) (R := (rK zI)) (x := p_more) rfl h_p_more)) e_int) (a_cons (e_add e_int (e_ixL (e_KL (e_var (K := K) (i := 2) (R := (rK zI)) (x := p_more) rfl h_p_more)) e_int)) (a_one (e_add e_int (e_ixL (e_KL (e_var (K := K) (i := 2) (R := (rK zI)) (x := p_more) rfl h_p_more)) e_int)))))))) hs hm (fun p_first vv9 G9 H9 e9 hs hv9 hm => ?_)
        obtain ⟨v_p_first, rfl, h_p_first⟩ := hv9
        have h_p_script := (((rL zI)).mono e9 h_p_script)
        have h_p_head := (((rK zI)).mono e9 h_p_head)
        have h_p_more := (((rK zI)).mono e9 h_p_more)
        have h_p_one := (((rP (rsC (rT rS) (rsC (rT rS) (rs1 (rT (rP (rsC rS (rsC rS (rs1 (rT rS))))))))))).mono e9 h_p_one)
        have h_p_two := (((rP (rsC (rT rS) (rsC (rT rS) (rs1 (rT (rP (rsC rS (rsC rS (rs1 (rT rS))))))))))).mono e9 h_p_two)
        refine (show (_ : TS) _ ([some v_p_script, some v_p_head, some v_p_more, some v_p_one, some (.int p_inputs), some v_p_two, d_6, d_7, d_8, some v_p_first] : L2.St) _ from ?_)
        exact w_ret0 (K := K) (e_call (fm := ⟨H, G, E, cl⟩) (a_cons (e_var (K := K) (i := 9) (R := (rP (rsC zI (rsC zI (rs1 (rT (rT (rP (rsC zI (rs1 zI)))))))))) (x := p_first) rfl h_p_first) (a_one (e_call (fm := ⟨H, G, E, cl⟩) (a_cons (e_var (K := K) (i := 0) (R := (rL zI)) (x := p_script) rfl h_p_script) (a_cons e_int (a_cons (e_add (e_add e_int (e_ixL (e_KL (e_var (K := K) (i := 2) (R := (rK zI)) (x := p_more) rfl h_p_more)) e_int)) (e_intB (e_eq srI (e_ixL (e_KL (e_var (K := K) (i := 1) (R := (rK zI)) (x := p_head) rfl h_p_head)) e_int) e_int))) (a_cons (e_add e_int (e_ixL (e_KL (e_var (K := K) (i := 2) (R := (rK zI)) (x := p_more) rfl h_p_more)) e_int)) (a_one (e_add e_int (e_ixL (e_KL (e_var (K := K) (i := 2) (R := (rK zI)) (x := p_more) rfl h_p_more)) e_int))))))))))) hs hm fun r v G2 H2 hs2 hr2 hq => hq v G2 H2 hs2.fin hr2
    · have h_p_script := (((rL zI)).mono e6 h_p_script)
      have h_p_head := (((rK zI)).mono e6 h_p_head)
      have h_p_more := (((rK zI)).mono e6 h_p_more)
      have h_p_one := (((rP (rsC (rT rS) (rsC (rT rS) (rs1 (rT (rP (rsC rS (rsC rS (rs1 (rT rS))))))))))).mono e6 h_p_one)
      have h_p_two := (((rP (rsC (rT rS) (rsC (rT rS) (rs1 (rT (rP (rsC rS (rsC rS (rs1 (rT rS))))))))))).mono e6 h_p_two)
      have b6 := Same.refl G6
      refine w_asg (K := K) (tg_name (i := 6) (R := zI)) (e_sub (e_sub (e_add e_int (e_ixL (e_KL (e_var (K := K) (i := 1) (R := (rK zI)) (x := p_head) rfl h_p_head)) e_int)) (e_len sq_T (e_proj (k := 2) (pjS (pjS pj1)) (e_var (K := K) (i := 3) (R := (rP (rsC (rT rS) (rsC (rT rS) (rs1 (rT (rP (rsC rS (rsC rS (rs1 (rT rS))))))))))) (x := p_one) rfl h_p_one)))) (e_len sq_T (e_proj (k := 2) (pjS (pjS pj1)) (e_var (K := K) (i := 5) (R := (rP (rsC (rT rS) (rsC (rT rS) (rs1 (rT (rP (rsC rS (rsC rS (rs1 (rT rS))))))))))) (x := p_two) rfl h_p_two)))) hs hm (fun p_count vv10 G10 H10 e10 hs hv10 hm => ?_)
      obtain ⟨v_p_count, rfl, h_p_count⟩ := hv10
      cases (show v_p_count = V.int p_count from h_p_count)
      have h_p_script := (((rL zI)).mono e10 h_p_script)
      have h_p_head := (((rK zI)).mono e10 h_p_head)
      have h_p_more := (((rK zI)).mono e10 h_p_more)
      have h_p_one := (((rP (rsC (rT rS) (rsC (rT rS) (rs1 (rT (rP (rsC rS (rsC rS (rs1 (rT rS))))))))))).mono e10 h_p_one)
      have h_p_two := (((rP (rsC (rT rS) (rsC (rT rS) (rs1 (rT (rP (rsC rS (rsC rS (rs1 (rT rS))))))))))).mono e10 h_p_two)
      have b6 := Same.trans b6 e10
      refine (show (_ : TS) _ ([some v_p_script, some v_p_head, some v_p_more, some v_p_one, some (.int p_inputs), some v_p_two, some (.int p_count), none, none, none] : L2.St) _ from ?_)
      refine w_asg (K := K) (tg_name (i := 7) (R := zI)) (e_min3 (e_var (K := K) (i := 6) (R := zI) (x := p_count) rfl rfl) (e_ixL (e_KL (e_var (K := K) (i := 2) (R := (rK zI)) (x := p_more) rfl h_p_more)) e_int) (e_sub e_int (e_len sq_T (e_proj (k := 2) (pjS (pjS pj1)) (e_var (K := K) (i := 3) (R := (rP (rsC (rT rS) (rsC (rT rS) (rs1 (rT (rP (rsC rS (rsC rS (rs1 (rT rS))))))))))) (x := p_one) rfl h_p_one))))) hs hm (fun p_part vv11 G11 H11 e11 hs hv11 hm => ?_)
      obtain ⟨v_p_part, rfl, h_p_part⟩ := hv11
      cases (show v_p_part = V.int p_part from h_p_part)
      have h_p_script := (((rL zI)).mono e11 h_p_script)
      have h_p_head := (((rK zI)).mono e11 h_p_head)
      have h_p_more := (((rK zI)).mono e11 h_p_more)
      have h_p_one := (((rP (rsC (rT rS) (rsC (rT rS) (rs1 (rT (rP (rsC rS (rsC rS (rs1 (rT rS))))))))))).mono e11 h_p_one)
      have h_p_two := (((rP (rsC (rT rS) (rsC (rT rS) (rs1 (rT (rP (rsC rS (rsC rS (rs1 (rT rS))))))))))).mono e11 h_p_two)
      have b6 := Same.trans b6 e11
      refine (show (_ : TS) _ ([some v_p_script, some v_p_head, some v_p_more, some v_p_one, some (.int p_inputs), some v_p_two, some (.int p_count), some (.int p_part), none, none] : L2.St) _ from ?_)
      refine w_asg (K := K) (tg_name (i := 8) (R := zI)) (e_min2 (e_sub (e_var (K := K) (i := 6) (R := zI) (x := p_count) rfl rfl) (e_var (K := K) (i := 7) (R := zI) (x := p_part) rfl rfl)) (e_sub e_int (e_len sq_T (e_proj (k := 2) (pjS (pjS pj1)) (e_var (K := K) (i := 5) (R := (rP (rsC (rT rS) (rsC (rT rS) (rs1 (rT (rP (rsC rS (rsC rS (rs1 (rT rS))))))))))) (x := p_two) rfl h_p_two))))) hs hm (fun p_rest vv12 G12 H12 e12 hs hv12 hm => ?_)
      obtain ⟨v_p_rest, rfl, h_p_rest⟩ := hv12
      cases (show v_p_rest = V.int p_rest from h_p_rest)
      have h_p_script := (((rL zI)).mono e12 h_p_script)
      have h_p_head := (((rK zI)).mono e12 h_p_head)
      have h_p_more := (((rK zI)).mono e12 h_p_more)
      have h_p_one := (((rP (rsC (rT rS) (rsC (rT rS) (rs1 (rT (rP (rsC rS (rsC rS (rs1 (rT rS))))))))))).mono e12 h_p_one)
      have h_p_two := (((rP (rsC (rT rS) (rsC (rT rS) (rs1 (rT (rP (rsC rS (rsC rS (rs1 (rT rS))))))))))).mono e12 h_p_two)
      have b6 := Same.trans b6 e12
      refine (show (_ : TS) _ ([some v_p_script, some v_p_head, some v_p_more, some v_p_one, some (.int p_inputs), some v_p_two, some (.int p_count), some (.int p_part), some (.int p_rest), none] : L2.St) _ from ?_)
      refine w_if (t_not (t_val (K := K) (e_call (fm := ⟨H, G, E, cl⟩) (a_cons (e_call (fm := ⟨H, G, E, cl⟩) (a_cons (e_var (K := K) (i := 3) (R := (rP (rsC (rT rS) (rsC (rT rS) (rs1 (rT (rP (rsC rS (rsC rS (rs1 (rT rS))))))))))) (x := p_one) rfl h_p_one) (a_one (e_sub (e_var (K := K) (i := 6) (R := zI) (x := p_count) rfl rfl) (e_var (K := K) (i := 8) (R := zI) (x := p_rest) rfl rfl))))) (a_cons (e_call (fm := ⟨H, G, E, cl⟩) (a_cons (e_var (K := K) (i := 5) (R := (rP (rsC (rT rS) (rsC (rT rS) (rs1 (rT (rP (rsC rS (rsC rS (rs1 (rT rS))))))))))) (x := p_two) rfl h_p_two) (a_one (e_var (K := K) (i := 8) (R := zI) (x := p_rest) rfl rfl)))) (a_one e_bl)))))) hs hm (fun G13 H13 e13 hs hm => ?_) (fun G13 H13 e13 hs hm => ?_)
      · have h_p_script := (((rL zI)).mono e13 h_p_script)
        have h_p_head := (((rK zI)).mono e13 h_p_head)
        have h_p_more := (((rK zI)).mono e13 h_p_more)
        have h_p_one := (((rP (rsC (rT rS) (rsC (rT rS) (rs1 (rT (rP (rsC rS (rsC rS (rs1 (rT rS))))))))))).mono e13 h_p_one)
        have h_p_two := (((rP (rsC (rT rS) (rsC (rT rS) (rs1 (rT (rP (rsC rS (rsC rS (rs1 (rT rS))))))))))).mono e13 h_p_two)
        have b6 := Same.trans b6 e13
        exact w_ret0 (K := K) e_bl hs hm fun r v G2 H2 hs2 hr2 hq => hq v G2 H2 hs2.fin hr2
      · have h_p_script := (((rL zI)).mono e13 h_p_script)
        have h_p_head := (((rK zI)).mono e13 h_p_head)
        have h_p_more := (((rK zI)).mono e13 h_p_more)
        have h_p_one := (((rP (rsC (rT rS) (rsC (rT rS) (rs1 (rT (rP (rsC rS (rsC rS (rs1 (rT rS))))))))))).mono e13 h_p_one)
        have h_p_two := (((rP (rsC (rT rS) (rsC (rT rS) (rs1 (rT (rP (rsC rS (rsC rS (rs1 (rT rS))))))))))).mono e13 h_p_two)
        have b6 := Same.trans b6 e13
        refine nx_of ?_
        try dsimp only
        refine (show (_ : TS) _ ([some v_p_script, some v_p_head, some v_p_more, some v_p_one, some (.int p_inputs), some v_p_two, some (.int p_count), some (.int p_part), some (.int p_rest), none] : L2.St) _ from ?_)
        exact J6.nx () _ _ _ _ _ b6 ⟨some (.int p_count), some (.int p_part), some (.int p_rest), rfl, rfl⟩ (Same.refl _) hs hm
    · have h_p_script := (((rL zI)).mono e6 h_p_script)
      have h_p_head := (((rK zI)).mono e6 h_p_head)
      have h_p_more := (((rK zI)).mono e6 h_p_more)
      have h_p_one := (((rP (rsC (rT rS) (rsC (rT rS) (rs1 (rT (rP (rsC rS (rsC rS (rs1 (rT rS))))))))))).mono e6 h_p_one)
      have h_p_two := (((rP (rsC (rT rS) (rsC (rT rS) (rs1 (rT (rP (rsC rS (rsC rS (rs1 (rT rS))))))))))).mono e6 h_p_two)
      have b6 := Same.refl G6
      refine w_if (t_not (t_val (K := K) (e_call (fm := ⟨H, G, E, cl⟩) (a_cons (e_var (K := K) (i := 3) (R := (rP (rsC (rT rS) (rsC (rT rS) (rs1 (rT (rP (rsC rS (rsC rS (rs1 (rT rS))))))))))) (x := p_one) rfl h_p_one) (a_cons (e_var (K := K) (i := 5) (R := (rP (rsC (rT rS) (rsC (rT rS) (rs1 (rT (rP (rsC rS (rsC rS (rs1 (rT rS))))))))))) (x := p_two) rfl h_p_two) (a_one e_bl)))))) hs hm (fun G14 H14 e14 hs hm => ?_) (fun G14 H14 e14 hs hm => ?_)
      · have h_p_script := (((rL zI)).mono e14 h_p_script)
        have h_p_head := (((rK zI)).mono e14 h_p_head)
        have h_p_more := (((rK zI)).mono e14 h_p_more)
        have h_p_one := (((rP (rsC (rT rS) (rsC (rT rS) (rs1 (rT (rP (rsC rS (rsC rS (rs1 (rT rS))))))))))).mono e14 h_p_one)
        have h_p_two := (((rP (rsC (rT rS) (rsC (rT rS) (rs1 (rT (rP (rsC rS (rsC rS (rs1 (rT rS))))))))))).mono e14 h_p_two)
        have b6 := Same.trans b6 e14
        exact w_ret0 (K := K) e_bl hs hm fun r v G2 H2 hs2 hr2 hq => hq v G2 H2 hs2.fin hr2
      · have h_p_script := (((rL zI)).mono e14 h_p_script)
        have h_p_head := (((rK zI)).mono e14 h_p_head)
        have h_p_more := (((rK zI)).mono e14 h_p_more)
        have h_p_one := (((rP (rsC (rT rS) (rsC (rT rS) (rs1 (rT (rP (rsC rS (rsC rS (rs1 (rT rS))))))))))).mono e14 h_p_one)
        have h_p_two := (((rP (rsC (rT rS) (rsC (rT rS) (rs1 (rT (rP (rsC rS (rsC rS (rs1 (rT rS))))))))))).mono e14 h_p_two)
        have b6 := Same.trans b6 e14
        refine nx_of ?_
        try dsimp only
        refine (show (_ : TS) _ ([some v_p_script, some v_p_head, some v_p_more, some v_p_one, some (.int p_inputs), some v_p_two, none, none, none, none] : L2.St) _ from ?_)
        exact J6.nx () _ _ _ _ _ b6 ⟨none, none, none, rfl, rfl⟩ (Same.refl _) hs hm
end G89

/-! names: a letter, or a word, and a number -/
namespace G89
open PySem L2 Mw
abbrev Gt := Str × Str × List Str
abbrev Nt := List Str × List Str × List Gt
def dec (z : Str) : Nat := z.cps.toList.foldl (fun a c => a * 10 + (c - 48)) 0
def dg (z : Str) : Bool := z.cps.toList.all fun c => decide (48 ≤ c) && decide (c ≤ 57)
theorem strI_facts : ∀ i : Nat, i < 100 → (dec (strI (i : Int)) = i ∧ dg (strI (i : Int)) = true ∧ 0 < (strI (i : Int)).cps.size ∧ (strI (i : Int)).cps.size ≤ 2 ∧ (i : Int).natAbs.log2 < 1920) := by decide +kernel
theorem strIM_ok {i : Nat} (h : i < 100) : strIM (.ok (i : Int)) = .ok (strI i) := by
  unfold strIM
  rw [Res.bind_ok, if_pos (strI_facts i h).2.2.2.2]
theorem app_cps (a b : Str) : (a ++ b).cps = a.cps ++ b.cps := rfl
theorem app_len (a b : Str) : (a ++ b).length = a.length + b.length := by show (a.cps ++ b.cps).size = _; rw [Array.size_append]; rfl
theorem empty_app (a : Str) : Str.empty ++ a = a := by
  cases a with | mk c =>
  show Str.mk (#[] ++ c) = _
  rw [Array.empty_append]
theorem app_inj {a b c : Str} (h : a ++ b = a ++ c) : b = c := by
  have h1 : (a.cps ++ b.cps) = (a.cps ++ c.cps) := congrArg Str.cps h
  cases b with | mk b => cases c with | mk c =>
  rw [Array.append_right_inj] at h1
  exact congrArg Str.mk h1
theorem strI_inj {i j : Nat} (hi : i < 100) (hj : j < 100) (h : strI (i : Int) = strI (j : Int)) : i = j := by
  rw [← (strI_facts i hi).1, ← (strI_facts j hj).1, h]
/-- a short good text -/
structure Gd (z : Str) : Prop where
  len : z.length ≤ 10
  ok : PyData.strOk z = true
theorem strI_gd {i : Nat} (h : i < 100) : (strI (i : Int)).length ≤ 2 ∧ PyData.strOk (strI (i : Int)) = true := by
  obtain ⟨_, h2, _, h4, _⟩ := strI_facts i h
  refine ⟨h4, ?_⟩
  unfold PyData.strOk
  rw [Array.all_eq_true']
  intro c hc
  unfold dg at h2
  rw [List.all_eq_true] at h2
  have := h2 c (by simpa using hc)
  rw [Bool.and_eq_true, decide_eq_true_iff, decide_eq_true_iff] at this
  exact decide_eq_true (by omega)
theorem app_ok {a b : Str} (ha : PyData.strOk a = true) (hb : PyData.strOk b = true) : PyData.strOk (a ++ b) = true := by
  unfold PyData.strOk at *
  rw [app_cps, Array.all_append, ha, hb]; rfl
theorem lim10 : 1000000 < lim := lim_big
theorem addS_ok {a b : Str} (h : a.length + b.length ≤ 1000000) : addSM (.ok a) (.ok b) = .ok (a ++ b) := by
  have := lim_big
  show (if a.length + b.length ≤ lim then Res.ok (a ++ b) else .stuck) = _
  rw [if_pos (by omega)]
theorem num_ok {x : Str} (hx : x.length ≤ 10) {i : Nat} (h : i < 100) : addSM (.ok x) (strIM (.ok (i : Int))) = .ok (x ++ strI i) := by
  rw [strIM_ok h, addS_ok (by have := (strI_gd h).1; omega)]
theorem fs_ok {x : Str} (hx : x.length ≤ 10) {i : Nat} (h : i < 100) {m : Res Int} (hm : m = .ok (i : Int)) : ((fun acc => Res.bind (.ok x) fun y => if (acc ++ y).length ≤ lim then (fun acc => Res.bind (strIM m) fun y => if (acc ++ y).length ≤ lim then (fun acc => Res.ok acc) (acc ++ y) else .stuck) (acc ++ y) else .stuck) Str.empty : Res Str) = .ok (x ++ strI i) := by
  have hb := lim_big
  have h2 := (strI_gd h).1
  subst hm
  simp only [Res.bind_ok, empty_app, strIM_ok h]
  rw [if_pos (by omega), if_pos (by rw [app_len]; omega)]
theorem fs_okB {x : Str} (hx : x.length ≤ 10) {i : Nat} (h : i < 100) {m : Res Int} (hm : m = .ok (i : Int)) : ((Res.ok x).bind fun y => if (Str.empty ++ y).length ≤ lim then (strIM m).bind fun z => if (Str.empty ++ y ++ z).length ≤ lim then .ok (Str.empty ++ y ++ z) else .stuck else .stuck) = .ok (x ++ strI i) := fs_ok hx h hm
theorem a_gd {x : Str} (hx : x.length ≤ 3) (ho : PyData.strOk x = true) {i : Nat} (h : i < 100) : Gd (x ++ strI i) := by
  obtain ⟨h1, h2⟩ := strI_gd h
  exact ⟨by rw [app_len]; omega, app_ok ho h2⟩
/-! ### dicts -/
abbrev Dc := List (Str × Str)
def Has (d : Dc) (s : Str) : Prop := (dget d s).isSome = true
def look (d : Dc) (s : Str) : Str := (dget d s).getD Str.empty
theorem look_ok {d : Dc} {s : Str} (h : Has d s) : dgetM d (.ok s) = .ok (look d s) := by
  unfold Has at h
  show optM (dget d s) = _
  unfold look
  cases e : dget d s with
  | none => rw [e] at h; cases h
  | some b => rfl
section
variable {κ β : Type} [DecidableEq κ]
theorem dget_cons (p : κ × β) (d : List (κ × β)) (s : κ) : dget (p :: d) s = if p.1 = s then some p.2 else dget d s := by
  unfold dget
  rw [List.find?_cons]
  by_cases h : p.1 = s
  · rw [decide_eq_true h, if_pos h]; rfl
  · rw [decide_eq_false h, if_neg h]
theorem dget_append (d e : List (κ × β)) (s : κ) : dget (d ++ e) s = if (dget d s).isSome = true then dget d s else dget e s := by
  induction d with
  | nil => rfl
  | cons p d ih =>
    rw [List.cons_append, dget_cons, dget_cons, ih]
    by_cases h : p.1 = s
    · rw [if_pos h, if_pos h]; rfl
    · rw [if_neg h, if_neg h]
theorem any_isSome (d : List (κ × β)) (s : κ) : (d.any fun p => decide (p.1 = s)) = (dget d s).isSome := by
  induction d with
  | nil => rfl
  | cons p d ih =>
    rw [List.any_cons, dget_cons, ih]
    by_cases h : p.1 = s
    · rw [decide_eq_true h, if_pos h]; rfl
    · rw [decide_eq_false h, if_neg h]; rfl
theorem dget_map_put (d : List (κ × β)) (k : κ) (v : β) (s : κ) : dget (d.map fun p => if p.1 = k then (p.1, v) else p) s = if s = k then (dget d s).map (fun _ => v) else dget d s := by
  induction d with
  | nil => split <;> rfl
  | cons p d ih =>
    rw [List.map_cons, dget_cons, dget_cons, ih]
    by_cases h : p.1 = k
    · rw [if_pos h]
      dsimp only
      by_cases h2 : p.1 = s
      · rw [if_pos h2, if_pos h2, if_pos (by rw [← h2, h])]; rfl
      · rw [if_neg h2, if_neg h2]
    · rw [if_neg h]
      by_cases h2 : p.1 = s
      · rw [if_pos h2, if_pos h2, if_neg (by rw [← h2]; exact h)]
      · rw [if_neg h2, if_neg h2]
theorem dget_dput (d : List (κ × β)) (k : κ) (v : β) (s : κ) : dget (dput d k v) s = if s = k then some v else dget d s := by
  unfold dput
  rw [any_isSome]
  by_cases h : (dget d k).isSome = true
  · rw [if_pos h, dget_map_put]
    by_cases e : s = k
    · subst e
      rw [if_pos rfl, if_pos rfl]
      cases q : dget d s with
      | none => rw [q] at h; cases h
      | some b => rfl
    · rw [if_neg e, if_neg e]
  · rw [if_neg h, dget_append]
    by_cases e : s = k
    · subst e
      rw [if_neg h, if_pos rfl, dget_cons, if_pos rfl]
    · rw [if_neg e]
      cases q : dget d s with
      | none => rw [if_neg (by simp), dget_cons, if_neg (fun z => e z.symm)]; rfl
      | some b => rw [if_pos (by simp)]
theorem dput_new {d : List (κ × β)} {k : κ} (h : ¬ (dget d k).isSome = true) (v : β) : dput d k v = d ++ [(k, v)] := by
  unfold dput
  rw [any_isSome, if_neg h]
end
theorem has_dput {d : Dc} {k v s : Str} : Has (dput d k v) s ↔ s = k ∨ Has d s := by
  unfold Has
  rw [dget_dput]
  by_cases e : s = k
  · rw [if_pos e]; exact ⟨fun _ => .inl e, fun _ => rfl⟩
  · rw [if_neg e]; exact ⟨fun h => .inr h, fun h => h.resolve_left e⟩
end G89

/-! joining two netlists: the program and the law make the same -/
namespace G89
open PySem L2 Mw
def nets (N : Nt) : List Str := N.1 ++ N.2.2.map (·.1)
/-- every net that is named is there -/
structure Wk (N : Nt) : Prop where
  src : ∀ g ∈ N.2.2, ∀ s ∈ g.2.2, s ∈ nets N
  out : ∀ s ∈ N.2.1, s ∈ nets N
  sz : N.1.length ≤ 10 ∧ N.2.2.length ≤ 60 ∧ N.2.1.length ≤ 10
  ar : ∀ g ∈ N.2.2, g.2.2.length ≤ 3
  kd : ∀ g ∈ N.2.2, PyData.strOk g.2.1 = true
def aS (i : Nat) : Str := ("a" : Str) ++ strI (i : Int)
def bS (i : Nat) : Str := ("b" : Str) ++ strI (i : Int)
theorem len_a : ("a" : Str).length ≤ 3 ∧ PyData.strOk ("a" : Str) = true := by decide +kernel
theorem len_b : ("b" : Str).length ≤ 3 ∧ PyData.strOk ("b" : Str) = true := by decide +kernel
theorem forM_fl {α S : Type} {f : α → S → Res S} {g : S → α → S} {m : S → Nat} {n : Nat} : ∀ {xs : List α} {s : S}, m s + xs.length ≤ n → (∀ x ∈ xs, ∀ s, m s < n → f x s = .ok (g s x) ∧ m (g s x) ≤ m s + 1) → Mw.forM f xs s = .ok (xs.foldl g s)
  | [], s, _, _ => rfl
  | x :: xs, s, h, hf => by
    rw [List.length_cons] at h
    obtain ⟨h1, h2⟩ := hf x (by simp) s (by omega)
    unfold Mw.forM
    rw [h1, Res.bind_ok]
    exact forM_fl (by omega) fun y hy => hf y (by simp [hy])
theorem dput_le (d : Dc) (k v : Str) : (dput d k v).length ≤ d.length + 1 := dput_len d k v
theorem dputM_ok {ρ : Type} {d : Dc} {k v : Str} (h : d.length < 1000000) (mk : Dc → Res ρ) : dputM d (.ok k) (.ok v) mk = mk (dput d k v) := by
  have := lim_big
  show (if d.length < lim then mk (dput d k v) else .stuck) = _
  rw [if_pos (by omega)]
def nstep (d : Dc) (s : Str) : Dc := dput d s (aS d.length)
def nfold (N : Nt) : Dc := (nets N).foldl nstep []
theorem has_fold {β : Type} {g : Dc → β → Dc} {k : β → Str} (hg : ∀ d x s, Has (g d x) s ↔ s = k x ∨ Has d s) : ∀ (xs : List β) (d : Dc) (s : Str), Has (xs.foldl g d) s ↔ s ∈ xs.map k ∨ Has d s
  | [], d, s => by simp
  | x :: xs, d, s => by
    rw [List.foldl_cons, has_fold hg xs, hg, List.map_cons, List.mem_cons]
    constructor
    · rintro (h | h | h)
      · exact .inl (.inr h)
      · exact .inl (.inl h)
      · exact .inr h
    · rintro ((h | h) | h)
      · exact .inr (.inl h)
      · exact .inl h
      · exact .inr (.inr h)
theorem has_n (N : Nt) (s : Str) : Has (nfold N) s ↔ s ∈ nets N := by
  unfold nfold
  rw [has_fold (g := nstep) (k := id) fun d x s => has_dput, List.map_id]
  exact ⟨fun h => h.resolve_right (fun z => by cases z), .inl⟩
theorem nets_len {N : Nt} (W : Wk N) : (nets N).length ≤ 70 := by
  have := W.sz
  unfold nets
  rw [List.length_append, List.length_map]; omega
theorem names_ok {N : Nt} (W : Wk N) : m_numbered_names N = .ok (nfold N) := by
  have hs := W.sz
  unfold m_numbered_names
  simp only [Res.bind_ok]
  rw [lcB_map (fun g : Gt => g.1) (by omega) (fun _ _ => rfl), catM_ok _ _ (by rw [List.length_map]; omega), Res.bind_ok]
  rw [forM_fl (g := nstep) (m := List.length) (n := 99) (by have := nets_len W; unfold nets at this; simpa using by omega) fun s hs d hd => by
    refine ⟨?_, dput_le _ _ _⟩
    unfold m_numbered_names_b6
    rw [fs_ok (by have := len_a.1; omega) (i := d.length) (by omega) rfl, dputM_ok (by omega)]
    rfl, Res.bind_ok]
  rfl
theorem law_names_ok {N : Nt} (W : Wk N) {ρ : Type} (k : Dc → Res ρ) : (Res.bind (Res.bind (catM (Res.bind (Res.bind (.ok N) fun a => .ok a.1) .ok) (lcB (fun (x2 : (Str × Str × (List Str))) => .ok true) (fun (x2 : (Str × Str × (List Str))) => (Res.bind (.ok x2) fun a => .ok a.1)) (Res.bind (.ok N) fun a => .ok a.2.2))) fun xs => Mw.forM m_law_joined_b17 xs []) k) = k (nfold N) := by
  have hs := W.sz
  simp only [Res.bind_ok]
  rw [lcB_map (fun g : Gt => g.1) (by omega) (fun _ _ => rfl), catM_ok _ _ (by rw [List.length_map]; omega), Res.bind_ok]
  rw [forM_fl (g := nstep) (m := List.length) (n := 99) (by have := nets_len W; unfold nets at this; simpa using by omega) fun s hs d hd => by
    refine ⟨?_, dput_le _ _ _⟩
    unfold m_law_joined_b17
    rw [num_ok (by have := len_a.1; omega) (i := d.length) (by omega), dputM_ok (by omega)]
    rfl, Res.bind_ok]
  rfl
/-! the second one's names -/
def cstep (D : Dc) (d : Dc) (p : Str × Str) : Dc := dput d p.1 (look D p.2)
def gstep (d : Dc) (p : Nat × Gt) : Dc := dput d p.2.1 (bS p.1)
def enN {α : Type} : Nat → List α → List (Nat × α)
  | _, [] => []
  | i, x :: xs => (i, x) :: enN (i + 1) xs
theorem enN_len {α : Type} : ∀ (i : Nat) (xs : List α), (enN i xs).length = xs.length
  | _, [] => rfl
  | i, x :: xs => by rw [enN, List.length_cons, enN_len, List.length_cons]
theorem enN_snd {α : Type} : ∀ (i : Nat) (xs : List α), (enN i xs).map (·.2) = xs
  | _, [] => rfl
  | i, x :: xs => by rw [enN, List.map_cons, enN_snd]
theorem enN_lt {α : Type} : ∀ (i : Nat) (xs : List α), ∀ p ∈ enN i xs, i ≤ p.1 ∧ p.1 < i + xs.length
  | _, [], p, h => by cases h
  | i, x :: xs, p, h => by
    rw [List.length_cons]
    rcases List.mem_cons.mp h with rfl | h
    · exact ⟨Nat.le_refl _, by omega⟩
    · have := enN_lt (i + 1) xs p h; omega
theorem enN_get {α : Type} [Inhabited α] : ∀ (i : Nat) (xs : List α), ∀ p ∈ enN i xs, gx xs ((p.1 - i : Nat) : Int) = p.2
  | _, [], p, h => by cases h
  | i, x :: xs, p, h => by
    rcases List.mem_cons.mp h with rfl | h
    · rw [Nat.sub_self]; rfl
    · have h1 := enN_lt (i + 1) xs p h
      have h2 := enN_get (i + 1) xs p h
      rw [show p.1 - i = (p.1 - (i + 1)) + 1 by omega, Int.natCast_succ, gx_succ _ _ (by omega)]
      exact h2
theorem enum_en {α : Type} (xs : List α) : enumL xs = (enN 0 xs).map fun p => ((p.1 : Int), p.2) := by
  have key : ∀ (xs : List α) (i : Nat), (xs.mapIdx fun k x => (((k + i : Nat) : Int), x)) = (enN i xs).map fun p => ((p.1 : Int), p.2) := by
    intro xs
    induction xs with
    | nil => intro i; rfl
    | cons x xs ih =>
      intro i
      rw [List.mapIdx_cons, enN, List.map_cons, ← ih (i + 1), Nat.zero_add]
      congr 1
      apply List.ext_getElem (by simp)
      intro n h1 h2
      simp only [List.getElem_mapIdx]
      congr 2
      omega
  exact key xs 0
theorem rg_en {α : Type} (xs : List α) : rgL 0 xs.length = (enN 0 xs).map fun p => (p.1 : Int) := by
  have key : ∀ (xs : List α) (i : Nat), rgL (i : Int) xs.length = (enN i xs).map fun p => (p.1 : Int) := by
    intro xs
    induction xs with
    | nil => intro i; rfl
    | cons x xs ih =>
      intro i
      rw [List.length_cons, rgL_cons, enN, List.map_cons, ← ih (i + 1)]
      rfl
  exact key xs 0
theorem forM_map {α β S : Type} {f : β → S → Res S} {h : α → β} : ∀ (xs : List α) (s : S), Mw.forM f (xs.map h) s = Mw.forM (fun x => f (h x)) xs s
  | [], s => rfl
  | x :: xs, s => by
    rw [List.map_cons]
    unfold Mw.forM
    congr 1
    funext s'
    exact forM_map xs s'
def zipf (A B : Nt) : List (Str × Str) := A.1.zip B.2.1
/-- the names of B behind those of A -/
def ofold (A B : Nt) : Dc := (enN 0 B.2.2).foldl gstep ((zipf B A).foldl (cstep (nfold A)) [])
theorem has_c (D : Dc) (xs : List (Str × Str)) (d : Dc) (s : Str) : Has (xs.foldl (cstep D) d) s ↔ s ∈ xs.map (·.1) ∨ Has d s := has_fold (k := Prod.fst) (fun d x s => has_dput) xs d s
theorem has_o {A B : Nt} (h : B.1.length = A.2.1.length) (s : Str) : Has (ofold A B) s ↔ s ∈ nets B := by
  unfold ofold
  rw [has_fold (g := gstep) (k := fun p : Nat × Gt => p.2.1) (fun d x s => has_dput), has_c]
  have e1 : (enN 0 B.2.2).map (fun p => p.2.1) = B.2.2.map (·.1) := by
    have := congrArg (List.map Prod.fst) (enN_snd 0 B.2.2)
    rw [List.map_map] at this
    exact this
  have e2 : (zipf B A).map (·.1) = B.1 := by
    unfold zipf
    exact List.map_fst_zip (by omega)
  rw [e1, e2]
  unfold nets
  rw [List.mem_append]
  constructor
  · rintro (q | q | q)
    · exact .inr q
    · exact .inl q
    · cases q
  · rintro (q | q)
    · exact .inr (.inl q)
    · exact .inl q
end G89

namespace G89
open PySem L2 Mw
theorem zip_mem_fst {A B : Nt} {p : Str × Str} (h : p ∈ zipf B A) : p.1 ∈ B.1 ∧ p.2 ∈ A.2.1 := by
  unfold zipf at h
  exact ⟨(List.of_mem_zip h).1, (List.of_mem_zip h).2⟩
theorem dcM_ok {α : Type} {kf vf : α → Res Str} {k v : α → Str} : ∀ {xs : List α} {d : Dc}, (∀ x ∈ xs, kf x = .ok (k x) ∧ vf x = .ok (v x)) → dcM kf vf d xs = .ok (xs.foldl (fun d x => dput d (k x) (v x)) d)
  | [], d, _ => rfl
  | x :: xs, d, h => by
    unfold dcM
    rw [(h x (by simp)).1, (h x (by simp)).2, Res.nox_ok, Res.nox_ok, Res.bind_ok, Res.bind_ok]
    exact dcM_ok fun y hy => h y (by simp [hy])
theorem fold_len {β : Type} {g : Dc → β → Dc} (hg : ∀ d x, (g d x).length ≤ d.length + 1) : ∀ (xs : List β) (d : Dc), (xs.foldl g d).length ≤ d.length + xs.length
  | [], d => by simp
  | x :: xs, d => by
    rw [List.foldl_cons, List.length_cons]
    have := fold_len hg xs (g d x)
    have := hg d x
    omega
theorem zipf_len {A B : Nt} (W : Wk B) : (zipf B A).length ≤ 10 := by
  have := W.sz
  unfold zipf
  rw [List.length_zip]; omega
theorem second_ok {A B : Nt} (WA : Wk A) (WB : Wk B) : m_second_names B (nfold A) A.2.1 = .ok (ofold A B) := by
  have hb := lim_big
  have hs := WB.sz
  have hz := zipf_len (A := A) WB
  unfold m_second_names
  simp only [Res.bind_ok, zipM_ok, enumM_ok]
  unfold dcB
  rw [Res.bind_ok, show zipL B.1 A.2.1 = zipf B A from rfl, if_pos (by omega)]
  rw [dcM_ok (k := Prod.fst) (v := fun p => look (nfold A) p.2) fun p hp => ⟨rfl, look_ok ((has_n A _).mpr (WA.out _ (zip_mem_fst hp).2))⟩, Res.bind_ok]
  rw [enum_en, forM_map]
  have hl := fold_len (g := cstep (nfold A)) (fun d x => dput_le _ _ _) (zipf B A) []
  rw [forM_fl (g := gstep) (m := List.length) (n := 99) (by rw [enN_len]; simp only [List.length_nil] at hl; show ((zipf B A).foldl (cstep (nfold A)) []).length + _ ≤ _; omega) fun p hp d hd => by
    refine ⟨?_, dput_le _ _ _⟩
    have := enN_lt 0 _ p hp
    unfold m_second_names_b6
    dsimp only
    rw [fs_okB (by have := len_b.1; omega) (i := p.1) (by omega) rfl, Res.bind_ok, dputM_ok (by omega)]
    rfl, Res.bind_ok]
  rfl
def ren (f : Str → Str) (g : Gt) : Gt := (f g.1, g.2.1, g.2.2.map f)
theorem renamed_ok {d : Dc} {xs : List Str} (h : ∀ s ∈ xs, Has d s) (hl : xs.length < 1000000) : m_renamed d xs = .ok (xs.map (look d)) := by
  unfold m_renamed
  rw [lcB_map (look d) hl (fun s hs => by rw [Res.bind_ok]; exact look_ok (h s hs))]
  rfl
theorem ren_gates_ok {N : Nt} {d : Dc} (W : Wk N) (h : ∀ s ∈ nets N, Has d s) : m_renamed_gates N d = .ok (N.2.2.map (ren (look d))) := by
  have hs := W.sz
  unfold m_renamed_gates
  rw [Res.bind_ok, lcB_map (ren (look d)) (by omega) (fun g hg => by
    have hn : g.1 ∈ nets N := List.mem_append_right _ (List.mem_map.mpr ⟨g, hg, rfl⟩)
    rw [Res.bind_ok, look_ok (h _ hn), pairM_ok, Res.bind_ok]
    dsimp only
    rw [renamed_ok (fun s hs => h s (W.src g hg s hs)) (by have := W.ar g hg; omega), pairM_ok, pairM_ok]
    rfl)]
theorem law_ren_ok {N : Nt} {d : Dc} (W : Wk N) (h : ∀ s ∈ nets N, Has d s) : m_law_renamed N.2.2 d = .ok (N.2.2.map (ren (look d))) := by
  have hs := W.sz
  unfold m_law_renamed
  rw [lcB_map (ren (look d)) (by omega) (fun g hg => by
    have hn : g.1 ∈ nets N := List.mem_append_right _ (List.mem_map.mpr ⟨g, hg, rfl⟩)
    rw [Res.bind_ok, Res.bind_ok, look_ok (h _ hn), Res.bind_ok, Res.bind_ok]
    rw [lcB_map (look d) (by have := W.ar g hg; omega) (fun s hs => by rw [Res.bind_ok]; exact look_ok (h s (W.src g hg s hs)))]
    rfl)]
/-- what both make -/
def joined (A B : Nt) : Nt := (A.1.map (look (nfold A)), B.2.1.map (look (ofold A B)), A.2.2.map (ren (look (nfold A))) ++ B.2.2.map (ren (look (ofold A B))))
def isL (g : Gt) : Bool := decide (g.2.1 = ("latch" : Str))
def nL (gs : List Gt) : Nat := (gs.filter isL).length
theorem latches_eq {gs : List Gt} (h : gs.length < 1000000) : lcB (fun (x1 : (Str × Str × (List Str))) => (eqM (Res.bind (.ok x1) fun a => .ok a.2.1) (.ok ("latch" : Str)))) (fun (x1 : (Str × Str × (List Str))) => (.ok x1)) (.ok gs) = .ok (gs.filter isL) := lcB_filter isL h fun g _ => rfl
theorem ones_eq {gs : List Gt} (h : gs.length < 1000000) : lcB (fun (x1 : (Str × Str × (List Str))) => (eqM (Res.bind (.ok x1) fun a => .ok a.2.1) (.ok ("latch" : Str)))) (fun (x1 : (Str × Str × (List Str))) => (.ok (1 : Int))) (.ok gs) = .ok ((gs.filter isL).map fun _ => (1 : Int)) := lcB_ok isL (fun _ => 1) h (fun g _ => rfl) (fun g _ _ => rfl)
def Lg (gs : List Gt) : Bool := decide (40 < gs.length) || decide (4 < nL gs)
theorem check_ok {gs : List Gt} (h : gs.length < 1000000) : m_check_gates gs = if Lg gs = true then .exc 1 [] else .ok () := by
  unfold m_check_gates
  rw [latches_eq h, lenM_ok, lenM_ok, gtM_ok, gtM_ok, orM_ok]
  unfold Lg nL
  by_cases h1 : 40 < gs.length
  · rw [decide_eq_true (by omega : (40 : Int) < (gs.length : Int)), decide_eq_true h1]; rfl
  · rw [decide_eq_false (by omega : ¬ (40 : Int) < (gs.length : Int)), decide_eq_false h1, if_neg (by simp), Bool.false_or]
    by_cases h2 : 4 < (gs.filter isL).length
    · rw [decide_eq_true (by omega : (4 : Int) < ((gs.filter isL).length : Int)), decide_eq_true h2]; rfl
    · rw [decide_eq_false (by omega : ¬ (4 : Int) < ((gs.filter isL).length : Int)), decide_eq_false h2]; rfl
theorem join_ok {A B : Nt} (WA : Wk A) (WB : Wk B) : m_join_netlists A B = if A.2.1.length = B.1.length then (if Lg (joined A B).2.2 = true then .exc 1 [] else .ok (joined A B)) else .exc 0 [] := by
  have hA := WA.sz
  have hB := WB.sz
  unfold m_join_netlists
  rw [Res.bind_ok, Res.bind_ok, lenM_ok, lenM_ok, neM_ok, bif_eq]
  by_cases e : A.2.1.length = B.1.length
  · rw [if_pos e, decide_eq_true (by omega), if_neg (by simp), Res.bind_ok, names_ok WA, Res.bind_ok, Res.bind_ok, pairM_ok, pairM_ok, Res.bind_ok]
    dsimp only
    have hn : ∀ s ∈ nets A, Has (nfold A) s := fun s h => (has_n A s).mpr h
    have ho : ∀ s ∈ nets B, Has (ofold A B) s := fun s h => (has_o e.symm s).mpr h
    rw [second_ok WA WB, Res.bind_ok, pairM_ok, Res.bind_ok]
    dsimp only
    rw [ren_gates_ok WA hn, pairM_ok, Res.bind_ok]
    dsimp only
    rw [ren_gates_ok WB ho, catM_ok _ _ (by rw [List.length_map, List.length_map]; omega), Res.bind_ok, Res.bind_ok, check_ok (by rw [List.length_append, List.length_map, List.length_map]; omega)]
    have hj : (joined A B).2.2 = A.2.2.map (ren (look (nfold A))) ++ B.2.2.map (ren (look (ofold A B))) := rfl
    rw [hj]
    split
    · rfl
    · rw [Res.bind_ok, Res.bind_ok, pairM_ok, Res.bind_ok]
      dsimp only
      rw [renamed_ok (fun s h => hn s (List.mem_append_left _ h)) (by omega), Res.bind_ok, pairM_ok, Res.bind_ok]
      dsimp only
      rw [renamed_ok (fun s h => ho s (WB.out s h)) (by omega)]
      rfl
  · rw [if_neg e, decide_eq_false (by omega)]
    rfl
theorem law_join_ok {A B : Nt} (WA : Wk A) (WB : Wk B) (e : A.2.1.length = B.1.length) : m_law_joined A B = .ok (joined A B) := by
  have hA := WA.sz
  have hB := WB.sz
  have hn : ∀ s ∈ nets A, Has (nfold A) s := fun s h => (has_n A s).mpr h
  have ho : ∀ s ∈ nets B, Has (ofold A B) s := fun s h => (has_o e.symm s).mpr h
  have hz := zipf_len (A := A) WB
  have hb := lim_big
  unfold m_law_joined
  rw [Res.bind_ok, law_names_ok WA, Res.bind_ok, Res.bind_ok, lenM_ok, rng1_ok (by omega), Res.bind_ok, Res.bind_ok, lenM_ok, rng1_ok (by omega)]
  have l1 : Mw.forM (m_law_joined_b16 A B (nfold A)) (rgL 0 B.1.length) [] = .ok ((zipf B A).foldl (cstep (nfold A)) []) := by
    have hzl : (zipf B A).length = B.1.length := by unfold zipf; rw [List.length_zip]; omega
    rw [← hzl, rg_en, forM_map]
    have e3 : (zipf B A).foldl (cstep (nfold A)) [] = (enN 0 (zipf B A)).foldl (fun (d : Dc) (p : Nat × (Str × Str)) => cstep (nfold A) d p.2) [] := by
      conv => lhs; rw [← enN_snd 0 (zipf B A)]
      rw [List.foldl_map]
    rw [e3]
    exact forM_fl (g := fun (d : Dc) (p : Nat × (Str × Str)) => cstep (nfold A) d p.2) (m := List.length) (n := 99) (by rw [enN_len]; simp only [List.length_nil]; omega) fun p hp d hd => by
      refine ⟨?_, dput_le _ _ _⟩
      have hlt := enN_lt 0 _ p hp
      have hg : (zipf B A)[p.1]? = some p.2 := by
        have := enN_get 0 _ p hp
        rw [Nat.sub_zero, gx_nat (by omega)] at this
        rw [List.getElem?_eq_getElem (by omega), this]
      unfold zipf at hg
      rw [List.getElem?_zip_eq_some] at hg
      obtain ⟨g1, g2⟩ := hg
      have i1 : idxM (.ok B.1) (.ok (p.1 : Int)) = .ok p.2.1 := by
        rw [idxM_ok, atI_nat g1]; rfl
      have i2 : idxM (.ok A.2.1) (.ok (p.1 : Int)) = .ok p.2.2 := by
        rw [idxM_ok, atI_nat g2]; rfl
      unfold m_law_joined_b16
      rw [Res.bind_ok, Res.bind_ok, Res.bind_ok, i1, i2, look_ok (hn _ (WA.out _ (List.mem_of_getElem? g2))), dputM_ok (by omega)]
      rfl
  rw [l1, Res.bind_ok, Res.bind_ok]
  have hl := fold_len (g := cstep (nfold A)) (fun d x => dput_le _ _ _) (zipf B A) []
  have l2 : Mw.forM (m_law_joined_b15 B) (rgL 0 B.2.2.length) ((zipf B A).foldl (cstep (nfold A)) []) = .ok (ofold A B) := by
    rw [rg_en, forM_map]
    exact forM_fl (g := gstep) (m := List.length) (n := 99) (by rw [enN_len]; simp only [List.length_nil] at hl; omega) fun p hp d hd => by
      refine ⟨?_, dput_le _ _ _⟩
      have hlt := enN_lt 0 _ p hp
      have hg := enN_get 0 _ p hp
      rw [Nat.sub_zero] at hg
      unfold m_law_joined_b15
      rw [Res.bind_ok, idxM_gx (xs := B.2.2) (by omega) (by omega), hg, Res.bind_ok, num_ok (by have := len_b.1; omega) (i := p.1) (by omega), dputM_ok (by omega)]
      rfl
  rw [l2, Res.bind_ok, Res.bind_ok, Res.bind_ok, pairM_ok, pairM_ok, Res.bind_ok, Res.bind_ok]
  dsimp only
  rw [law_ren_ok WA hn, law_ren_ok WB ho, catM_ok _ _ (by rw [List.length_map, List.length_map]; omega), Res.bind_ok, Res.bind_ok, Res.bind_ok]
  rw [lcB_map (look (nfold A)) (by omega) (fun s hs => by rw [Res.bind_ok]; exact look_ok (hn s (List.mem_append_left _ hs)))]
  rw [lcB_map (look (ofold A B)) (by omega) (fun s hs => by rw [Res.bind_ok]; exact look_ok (ho s (WB.out s hs)))]
  rfl
end G89

/-! what is refused; the same netlist -/
namespace G89
open PySem L2 Mw
theorem forB_unit {α ρ : Type} {f : α → Unit → Res (Tn Unit ρ)} : ∀ {xs : List α}, (∀ x ∈ xs, f x () = .ok (.nx ())) → forB f xs () = .ok (.nx ())
  | [], _ => rfl
  | x :: xs, h => by
    unfold forB
    rw [h x (by simp), Res.bind_ok]
    exact forB_unit fun y hy => h y (by simp [hy])
theorem eqQ_ok {α : Type} [DecidableEq α] {ok : α → Bool} {x y : α} (hx : ok x = true) (hy : ok y = true) : eqQM ok (.ok x) (.ok y) = .ok (decide (x = y)) := by
  show (if (ok x && ok y) = true then Res.ok (decide (x = y)) else .stuck) = _
  rw [hx, hy]; rfl
def VOk (d : Dc) : Prop := ∀ p ∈ d, PyData.strOk p.2 = true
theorem vok_dput {d : Dc} {k v : Str} (h : VOk d) (hv : PyData.strOk v = true) : VOk (dput d k v) := fun p hp => by
  unfold dput at hp
  split at hp
  · obtain ⟨q, hq, rfl⟩ := List.mem_map.mp hp
    split
    · exact hv
    · exact h q hq
  · rcases List.mem_append.mp hp with hp | hp
    · exact h p hp
    · rw [List.mem_singleton.mp hp]; exact hv
theorem vok_look {d : Dc} {s : Str} (h : VOk d) : PyData.strOk (look d s) = true := by
  unfold look dget
  cases e : d.find? fun p => decide (p.1 = s) with
  | none => decide +kernel
  | some p => exact h p (List.mem_of_find?_eq_some e)
theorem fold_inv {β : Type} {g : Dc → β → Dc} {P : Dc → Prop} {n : Nat} : ∀ (xs : List β) (d : Dc), d.length + xs.length ≤ n → P d → (∀ d x, x ∈ xs → d.length < n → P d → P (g d x) ∧ (g d x).length ≤ d.length + 1) → P (xs.foldl g d)
  | [], d, _, h, _ => h
  | x :: xs, d, hl, h, hg => by
    rw [List.length_cons] at hl
    obtain ⟨h1, h2⟩ := hg d x (by simp) (by omega) h
    exact fold_inv xs _ (by omega) h1 fun d y hy => hg d y (by simp [hy])
theorem vok_n {N : Nt} (W : Wk N) : VOk (nfold N) := by
  unfold nfold
  refine fold_inv (n := 99) _ _ (by have := nets_len W; simp only [List.length_nil]; omega) (fun p hp => by cases hp) fun d s hs hd h => ⟨vok_dput h ?_, dput_le _ _ _⟩
  exact (a_gd len_a.1 len_a.2 (i := d.length) (by omega)).ok
theorem vok_o {A B : Nt} (WA : Wk A) (WB : Wk B) : VOk (ofold A B) := by
  have hs := WB.sz
  have hz := zipf_len (A := A) WB
  unfold ofold
  have hl := fold_len (g := cstep (nfold A)) (fun d x => dput_le _ _ _) (zipf B A) []
  simp only [List.length_nil] at hl
  refine fold_inv (n := 99) _ _ (by rw [enN_len]; omega) ?_ fun d p hp hd h => ⟨vok_dput h ?_, dput_le _ _ _⟩
  · exact fold_inv (n := 99) _ _ (by simp only [List.length_nil]; omega) (fun p hp => by cases hp) fun d s hs hd h => ⟨vok_dput h (vok_look (vok_n WA)), dput_le _ _ _⟩
  · have := enN_lt 0 _ p hp
    exact (a_gd len_b.1 len_b.2 (i := p.1) (by omega)).ok
theorem joined_ok {A B : Nt} (WA : Wk A) (WB : Wk B) : (qeP (qeC (qeT qeS) (qeC (qeT qeS) (qe1 (qeT (qeP (qeC qeS (qeC qeS (qe1 (qeT qeS)))))))))).ok (joined A B) = true := by
  have vn := vok_n WA
  have vo := vok_o WA WB
  have key : ∀ (d : Dc) (xs : List Str), VOk d → (xs.map (look d)).all PyData.strOk = true := fun d xs h => by
    rw [List.all_map, List.all_eq_true]
    exact fun s _ => vok_look h
  have kg : ∀ (d : Dc) (gs : List Gt), VOk d → (∀ g ∈ gs, PyData.strOk g.2.1 = true) → (gs.map (ren (look d))).all (fun x => PyData.strOk x.1 && (PyData.strOk x.2.1 && x.2.2.all PyData.strOk)) = true := fun d gs h hk => by
    rw [List.all_map, List.all_eq_true]
    intro g hg
    show (PyData.strOk (look d g.1) && (PyData.strOk g.2.1 && (g.2.2.map (look d)).all PyData.strOk)) = true
    rw [vok_look h, hk g hg, key d _ h]; rfl
  show ((joined A B).1.all PyData.strOk && ((joined A B).2.1.all PyData.strOk && (joined A B).2.2.all (fun x => PyData.strOk x.1 && (PyData.strOk x.2.1 && x.2.2.all PyData.strOk)))) = true
  unfold joined
  dsimp only
  rw [key _ _ vn, key _ _ vo, List.all_append, kg _ _ vn WA.kd, kg _ _ vo WB.kd]
  rfl
theorem same_nets {N : Nt} (h : (qeP (qeC (qeT qeS) (qeC (qeT qeS) (qe1 (qeT (qeP (qeC qeS (qeC qeS (qe1 (qeT qeS)))))))))).ok N = true) (hs : N.1.length + N.2.1.length ≤ 1000000) : m_law_same_netlist N N = .ok true := by
  unfold m_law_same_netlist
  rw [Res.bind_ok, Res.bind_ok, neM_ok, decide_eq_true rfl, notM_ok, orM_ok, if_neg (by simp), bif_eq, if_neg (by simp), show rng1M (.ok (3 : Int)) = .ok (rgL 0 3) from rng1_ok (n := 3) (by omega), Res.bind_ok]
  have e1 : forB (m_law_same_netlist_b11 N N) (rgL 0 3) () = .ok (.nx ()) := forB_unit fun x hx => by
    obtain ⟨h0, h1⟩ := mem_rgL.mp hx
    unfold m_law_same_netlist_b11
    rw [Res.bind_ok, idxM_gx (xs := len3 N) h0 (by show x < 3; omega), Res.bind_ok, Res.bind_ok, neM_ok, decide_eq_true rfl]
    rfl
  rw [e1, Res.bind_ok, Lp.el]
  rw [Res.bind_ok, Res.bind_ok, catM_ok _ _ (by omega), Res.bind_ok]
  have e2 : forB m_law_same_netlist_b10 (N.1 ++ N.2.1) () = .ok (.nx ()) := forB_unit fun x hx => rfl
  rw [e2, Res.bind_ok, Lp.el]
  rw [Res.bind_ok, Res.bind_ok]
  have e3 : forB m_law_same_netlist_b9 N.2.2 () = .ok (.nx ()) := forB_unit fun x hx => rfl
  rw [e3, Res.bind_ok, Lp.el]
  exact (eqQ_ok h h).trans (by rw [decide_eq_true rfl])
theorem refusedN {A B : Nt} {large : Bool} (h : m_join_netlists A B = .exc (if large = true then 1 else 0) []) : m_law_refused true (.inl A) (.inl B) large = .ok true := by
  unfold m_law_refused getlM
  rw [Res.bind_ok, Res.bind_ok, pairM_ok, Res.bind_ok]
  dsimp only
  rw [h, bif_eq, if_pos rfl]
  cases large <;> rfl
theorem right_nets {A B : Nt} (WA : Wk A) (WB : Wk B) (w : Bool) (hw : w = true → A.2.1.length = B.1.length → Lg (joined A B).2.2 = false → eqM (m_law_net_table (joined A B)) (Res.bind (pairM (m_law_net_table A) (m_law_net_table B)) fun a => m_law_joined_tables (a.1) (a.2)) = .ok true) : m_law_right_netlists A B w = .ok true := by
  have hA := WA.sz
  have hB := WB.sz
  unfold m_law_right_netlists
  rw [Res.bind_ok, Res.bind_ok, lenM_ok, lenM_ok, neM_ok, bif_eq]
  have hj := join_ok WA WB
  by_cases e : A.2.1.length = B.1.length
  · rw [if_pos e] at hj
    have hgl : (joined A B).2.2.length ≤ 120 := by unfold joined; dsimp only; rw [List.length_append, List.length_map, List.length_map]; omega
    rw [decide_eq_true (by omega), if_neg (by simp), pairM_ok, Res.bind_ok]
    dsimp only
    rw [law_join_ok WA WB e, Res.bind_ok, Res.bind_ok, ones_eq (by omega), lenM_ok, lenM_ok, List.length_map, gtM_ok, gtM_ok, orM_ok]
    have hL : (if decide ((40 : Int) < ((joined A B).2.2.length : Int)) = true then Res.ok true else Res.ok (decide ((4 : Int) < (((joined A B).2.2.filter isL).length : Int)))) = Res.ok (Lg (joined A B).2.2) := by
      unfold Lg nL
      by_cases h1 : 40 < (joined A B).2.2.length
      · rw [decide_eq_true (by omega : (40 : Int) < ((joined A B).2.2.length : Int)), decide_eq_true h1]; rfl
      · rw [decide_eq_false (by omega : ¬ (40 : Int) < ((joined A B).2.2.length : Int)), decide_eq_false h1, if_neg (by simp), Bool.false_or]
        congr 1
        exact decide_eq_decide.mpr (by omega)
    rw [hL, bif_eq]
    by_cases hl : Lg (joined A B).2.2 = true
    · rw [if_pos hl]
      rw [if_pos hl] at hj
      exact refusedN (large := true) hj
    · rw [if_neg hl]
      rw [if_neg hl] at hj
      rw [Res.bind_ok]
      dsimp only
      rw [hj, Res.bind_ok, pairM_ok, Res.bind_ok]
      dsimp only
      rw [same_nets (joined_ok WA WB) (by unfold joined; dsimp only; rw [List.length_map, List.length_map]; omega), notM_ok, bif_eq, if_neg (by simp), notM_ok, bif_eq]
      cases w with
      | false => rfl
      | true =>
        rw [if_neg (by simp), Res.bind_ok, Res.bind_ok, Res.bind_ok]
        exact hw rfl e (by simpa using hl)
  · rw [if_neg e] at hj
    rw [decide_eq_false (by omega), Bool.not_false, if_pos rfl]
    exact refusedN (large := false) hj
end G89

/-! tables joined -/
namespace G89
open PySem L2 Mw
abbrev Row := List (Int × Int)
abbrev Tb := Int × Int × List Row
structure WT (i o : Nat) (t : Tb) : Prop where
  i1 : t.1 = (i : Int)
  o1 : t.2.1 = (o : Int)
  ib : i ≤ 6
  ob : o ≤ 6
  n0 : 0 < t.2.2.length
  nb : t.2.2.length ≤ 16
  rl : ∀ r ∈ t.2.2, r.length = 2 ^ i
  pr : ∀ r ∈ t.2.2, ∀ p ∈ r, (0 ≤ p.1 ∧ p.1 < (t.2.2.length : Int)) ∧ 0 ≤ p.2 ∧ p.2 < ((2 ^ o : Nat) : Int)
def cell (u : Tb) (b a : Int) : Int × Int := gx (gx u.2.2 b) a
/-- a row of the first table behind which the second one is in state b -/
def jrow (n : Nat) (u : Tb) (b : Int) (r : Row) : Row := r.map fun p => (p.1 + (n : Int) * (cell u b p.2).1, (cell u b p.2).2)
def jt (t u : Tb) : Tb := (t.1, u.2.1, (rgL 0 u.2.2.length).flatMap fun b => t.2.2.map (jrow t.2.2.length u b))
theorem forM_cat {α β : Type} {f : α → List β → Res (List β)} {g : α → List β} {N : Nat} : ∀ {xs : List α} {acc : List β}, acc.length + (xs.flatMap g).length ≤ N → (∀ x ∈ xs, ∀ acc, acc.length + (g x).length ≤ N → f x acc = .ok (acc ++ g x)) → Mw.forM f xs acc = .ok (acc ++ xs.flatMap g)
  | [], acc, _, _ => by simp [Mw.forM]
  | x :: xs, acc, h, hf => by
    rw [List.flatMap_cons, List.length_append] at h
    unfold Mw.forM
    rw [hf x (by simp) acc (by omega), Res.bind_ok, forM_cat (by rw [List.length_append]; omega) fun y hy => hf y (by simp [hy]), List.flatMap_cons, List.append_assoc]
theorem fm_congr {α β : Type} {f g : α → List β} : ∀ {xs : List α}, (∀ x ∈ xs, f x = g x) → xs.flatMap f = xs.flatMap g
  | [], _ => rfl
  | x :: xs, h => by rw [List.flatMap_cons, List.flatMap_cons, h x (by simp), fm_congr fun y hy => h y (by simp [hy])]
theorem fm_one {α β : Type} (h : α → β) : ∀ xs : List α, xs.flatMap (fun x => [h x]) = xs.map h
  | [] => rfl
  | x :: xs => by rw [List.flatMap_cons, fm_one h xs, List.map_cons]; rfl
theorem forM_one {α β : Type} {f : α → List β → Res (List β)} {h : α → β} {xs : List α} (hl : xs.length ≤ 100000) (hf : ∀ x ∈ xs, ∀ acc, f x acc = appM acc (.ok (h x)) .ok) : Mw.forM f xs [] = .ok (xs.map h) := by
  have hb := lim_big
  have := forM_cat (f := f) (g := fun x => [h x]) (N := 100000) (xs := xs) (acc := []) (by rw [fm_one, List.length_map]; simpa using hl) fun x hx acc ha => by
    rw [hf x hx acc, appM_ok _ _ _ (by have : ([h x] : List β).length = 1 := rfl; omega)]
  rw [this, fm_one, List.nil_append]
theorem cell_ok {i o : Nat} {u : Tb} (U : WT i o u) {b a : Int} (hb : 0 ≤ b ∧ b < (u.2.2.length : Int)) (ha : 0 ≤ a ∧ a < ((2 ^ i : Nat) : Int)) : idxM (idxM (.ok u.2.2) (.ok b)) (.ok a) = .ok (cell u b a) := by
  rw [idxM_gx hb.1 hb.2, idxM_gx ha.1 (by rw [U.rl _ (gx_mem hb.1 hb.2)]; omega)]
  rfl
theorem sc_ok (t : Tb) : (Res.bind (.ok t) fun a => m_state_count a) = .ok (t.2.2.length : Int) := by
  rw [Res.bind_ok]
  unfold m_state_count
  rw [Res.bind_ok, lenM_ok]
theorem pow_le {i : Nat} (h : i ≤ 6) : 2 ^ i ≤ 64 := Nat.pow_le_pow_right (n := 2) (by decide) h
theorem jrow_len (n : Nat) (u : Tb) (b : Int) (r : Row) : (jrow n u b r).length = r.length := List.length_map ..
section
variable {i o o' : Nat} {t u : Tb}
theorem b13_ok (T : WT i o t) (U : WT o o' u) {b : Int} (hb : 0 ≤ b ∧ b < (u.2.2.length : Int)) {r : Row} (hr : r ∈ t.2.2) {p : Int × Int} (hp : p ∈ r) (acc : Row) : m_join_tables_b13 t u b p acc = appM acc (.ok (p.1 + (t.2.2.length : Int) * (cell u b p.2).1, (cell u b p.2).2)) .ok := by
  obtain ⟨_, h3, h4⟩ := T.pr r hr p hp
  have hn := T.nb
  unfold m_join_tables_b13
  obtain ⟨p1, p2⟩ := p
  dsimp only
  rw [pairM_ok, pairM_ok, Res.bind_ok]
  dsimp only
  unfold m_step
  rw [Res.bind_ok, cell_ok U hb ⟨h3, h4⟩, Res.bind_ok, sc_ok, mul_ok (.inl (by omega)), addM_ok, pairM_ok]
theorem b10_ok (T : WT i o t) (U : WT o o' u) {s : Int} (hs : 0 ≤ s / (t.2.2.length : Int) ∧ s / (t.2.2.length : Int) < (u.2.2.length : Int)) {r : Row} (hr : r ∈ t.2.2) {p : Int × Int} (hp : p ∈ r) (acc : Row) : m_law_joined_tables_b10 u (t.2.2.length : Int) s p acc = appM acc (.ok (p.1 + (t.2.2.length : Int) * (cell u (s / (t.2.2.length : Int)) p.2).1, (cell u (s / (t.2.2.length : Int)) p.2).2)) .ok := by
  obtain ⟨_, h3, h4⟩ := T.pr r hr p hp
  have hn := T.nb
  have h0 := T.n0
  unfold m_law_joined_tables_b10
  obtain ⟨p1, p2⟩ := p
  dsimp only
  rw [Res.bind_ok, fdiv_ok (by omega) (by omega), cell_ok U hs ⟨h3, h4⟩, Res.bind_ok, mul_ok (.inl (by omega)), addM_ok, pairM_ok]
theorem jt_len (T : WT i o t) (U : WT o o' u) : (jt t u).2.2.length ≤ 256 := by
  have h1 := T.nb
  have h2 := U.nb
  unfold jt
  dsimp only
  rw [List.length_flatMap]
  have : (List.map (fun b => (t.2.2.map (jrow t.2.2.length u b)).length) (rgL 0 u.2.2.length)) = List.replicate u.2.2.length t.2.2.length := by
    apply List.ext_getElem (by simp [rgL_length])
    intro n h1 h2
    simp
  rw [this, List.sum_replicate_nat]
  exact Nat.le_trans (Nat.mul_le_mul h2 h1) (by decide)
theorem jt_ok (T : WT i o t) (U : WT o o' u) : Mw.forM (m_join_tables_b16 t u) (rgL 0 u.2.2.length) [] = .ok (jt t u).2.2 := by
  have hb := lim_big
  have hl := jt_len T U
  have hn := T.nb
  have := forM_cat (f := m_join_tables_b16 t u) (g := fun b => t.2.2.map (jrow t.2.2.length u b)) (N := 1000) (xs := rgL 0 u.2.2.length) (acc := []) (by unfold jt at hl; dsimp only at hl; simp only [List.length_nil]; omega) fun b hbm acc ha => by
    obtain ⟨b0, b1⟩ := mem_rgL.mp hbm
    unfold m_join_tables_b16
    rw [Res.bind_ok, Res.bind_ok]
    rw [forM_cat (g := fun r => [jrow t.2.2.length u b r]) (N := 1000) (by rw [fm_one]; exact ha) fun r hr acc ha2 => by
      have rl := T.rl r hr
      have pl := pow_le T.ib
      unfold m_join_tables_b14
      rw [Res.bind_ok, Res.bind_ok, forM_one (h := fun p : Int × Int => (p.1 + (t.2.2.length : Int) * (cell u b p.2).1, (cell u b p.2).2)) (by omega) (fun p hp acc => b13_ok T U ⟨b0, by omega⟩ hr hp acc), Res.bind_ok, Res.bind_ok, appM_ok _ _ _ (by have : ([jrow t.2.2.length u b r] : List Row).length = 1 := rfl; omega)]
      rfl, Res.bind_ok, fm_one]
  rw [this, List.nil_append]
  rfl
theorem rg_prod {β : Type} (K : Int → Int → List β) (n : Nat) (hn : 0 < n) : ∀ m : Nat, (rgL 0 (n * m)).flatMap (fun s => K (s % (n : Int)) (s / (n : Int))) = (rgL 0 m).flatMap fun b => (rgL 0 n).flatMap fun a => K a b
  | 0 => by simp [rgL]
  | m + 1 => by
    have e1 : rgL 0 (n * (m + 1)) = rgL 0 (n * m) ++ (rgL 0 n).map fun a => ((n * m : Nat) : Int) + a := by
      unfold rgL
      rw [Nat.mul_succ, List.range_add, List.map_append, List.map_map, List.map_map]
      congr 1
      apply List.map_congr_left
      intro a _
      show (0 : Int) + ((n * m + a : Nat) : Int) = ((n * m : Nat) : Int) + (0 + (a : Int))
      omega
    rw [e1, List.flatMap_append, rg_prod K n hn m, rgL_succ, List.flatMap_append, List.flatMap_map]
    congr 1
    rw [List.flatMap_cons, List.flatMap_nil, List.append_nil]
    refine fm_congr fun a ha => ?_
    obtain ⟨a0, a1⟩ := mem_rgL.mp ha
    have e2 : ((n * m : Nat) : Int) + a = a + (n : Int) * (m : Int) := by push_cast; omega
    rw [e2, Int.add_mul_emod_self_left, Int.emod_eq_of_lt a0 (by omega), Int.add_mul_ediv_left _ _ (by omega), Int.ediv_eq_zero_of_lt a0 (by omega)]
theorem rows_gx (rs : List Row) {β : Type} (f : Row → List β) : (rgL 0 rs.length).flatMap (fun a => f (gx rs a)) = rs.flatMap f := by
  have : (rgL 0 rs.length).map (fun a => gx rs a) = rs := by
    apply List.ext_getElem (by simp [rgL_length])
    intro k h1 h2
    simp only [rgL, List.map_map, List.getElem_map, List.getElem_range, Function.comp]
    rw [Int.zero_add, gx_nat h2]
  conv => rhs; rw [← this, List.flatMap_map]
theorem law_jt_ok (T : WT i o t) (U : WT o o' u) : m_law_joined_tables t u = .ok (jt t u) := by
  have hb := lim_big
  have hn := T.nb
  have h0 := T.n0
  have hm := U.nb
  have hnm : t.2.2.length * u.2.2.length ≤ 16 * 16 := Nat.mul_le_mul hn hm
  have hl := jt_len T U
  have rows : (rgL 0 (t.2.2.length * u.2.2.length)).flatMap (fun s => [jrow t.2.2.length u (s / (t.2.2.length : Int)) (gx t.2.2 (s % (t.2.2.length : Int)))]) = (jt t u).2.2 := by
    rw [rg_prod (fun a b => [jrow t.2.2.length u b (gx t.2.2 a)]) _ h0]
    unfold jt
    dsimp only
    refine fm_congr fun b _ => ?_
    rw [rows_gx t.2.2 (fun r => [jrow t.2.2.length u b r]), fm_one]
  unfold m_law_joined_tables
  rw [Res.bind_ok, lenM_ok, Res.bind_ok, Res.bind_ok, Res.bind_ok, lenM_ok, mul_ok (.inl (by omega))]
  rw [show (t.2.2.length : Int) * (u.2.2.length : Int) = ((t.2.2.length * u.2.2.length : Nat) : Int) by push_cast; rfl, rng1_ok (by omega), Res.bind_ok]
  rw [forM_cat (g := fun s => [jrow t.2.2.length u (s / (t.2.2.length : Int)) (gx t.2.2 (s % (t.2.2.length : Int)))]) (N := 1000) (by rw [rows]; simp only [List.length_nil]; omega) fun s hs acc ha => by
    obtain ⟨s0, s1⟩ := mem_rgL.mp hs
    have q0 : 0 ≤ s % (t.2.2.length : Int) := Int.emod_nonneg _ (by omega)
    have q1 : s % (t.2.2.length : Int) < (t.2.2.length : Int) := Int.emod_lt_of_pos _ (by omega)
    have d0 : 0 ≤ s / (t.2.2.length : Int) := Int.ediv_nonneg s0 (by omega)
    have d1 : s / (t.2.2.length : Int) < (u.2.2.length : Int) := Int.ediv_lt_of_lt_mul (by omega) (by rw [Int.mul_comm]; push_cast at s1; omega)
    have hr : gx t.2.2 (s % (t.2.2.length : Int)) ∈ t.2.2 := gx_mem q0 q1
    have rl := T.rl _ hr
    have pl := pow_le T.ib
    unfold m_law_joined_tables_b12
    rw [Res.bind_ok, Res.bind_ok, Res.bind_ok, mod_ok (by omega), idxM_gx q0 q1, Res.bind_ok]
    rw [forM_one (h := fun p : Int × Int => (p.1 + (t.2.2.length : Int) * (cell u (s / (t.2.2.length : Int)) p.2).1, (cell u (s / (t.2.2.length : Int)) p.2).2)) (by omega) (fun p hp acc => b10_ok T U ⟨d0, d1⟩ hr hp acc), Res.bind_ok, Res.bind_ok, appM_ok _ _ _ (by
      have : ([jrow t.2.2.length u (s / (t.2.2.length : Int)) (gx t.2.2 (s % (t.2.2.length : Int)))] : List Row).length = 1 := rfl
      omega)]
    rfl, Res.bind_ok, rows, List.nil_append]
  rw [Res.bind_ok, Res.bind_ok, Res.bind_ok, pairM_ok, pairM_ok]
  rfl
end
def TL (t u : Tb) : Bool := decide (32 < t.2.2.length * u.2.2.length) || decide ((1024 : Int) < (t.2.2.length * u.2.2.length : Nat) * ((2 ^ t.1.toNat : Nat) : Int))
section
variable {i o i' o' : Nat} {t u : Tb}
theorem join_t_ok (T : WT i o t) (U : WT i' o' u) : m_join_tables t u = if o = i' then (if TL t u = true then .exc 1 [] else .ok (jt t u)) else .exc 0 [] := by
  have hb := lim_big
  have hn := T.nb
  have hm := U.nb
  have hi := T.ib
  have hnm : t.2.2.length * u.2.2.length ≤ 16 * 16 := Nat.mul_le_mul hn hm
  unfold m_join_tables
  rw [Res.bind_ok, Res.bind_ok, T.o1, U.i1, neM_ok, bif_eq]
  by_cases e : o = i'
  · subst e
    rw [if_pos rfl, decide_eq_true rfl, if_neg (by simp), sc_ok, sc_ok, mul_ok (.inl (by omega)), Res.bind_ok, Res.bind_ok]
    unfold m_letter_count
    rw [Res.bind_ok, T.i1, shl1_ok (by omega), mul_ok (.inr (by rw [Int.natAbs_natCast]; have := pow_le hi; omega)), gtM_ok, gtM_ok, orM_ok]
    have e2 : (if decide ((32 : Int) < (t.2.2.length : Int) * (u.2.2.length : Int)) = true then Res.ok true else Res.ok (decide ((1024 : Int) < (t.2.2.length : Int) * (u.2.2.length : Int) * ((2 ^ i : Nat) : Int)))) = Res.ok (TL t u) := by
      unfold TL
      rw [T.i1, Int.toNat_natCast]
      by_cases q : 32 < t.2.2.length * u.2.2.length
      · rw [decide_eq_true (by exact_mod_cast q), decide_eq_true q]; rfl
      · rw [decide_eq_false (by exact_mod_cast q), decide_eq_false q, if_neg (by simp), Bool.false_or]
        push_cast
        rfl
    rw [e2, bif_eq]
    split
    · rfl
    · rw [Res.bind_ok, rng1_ok (by omega), Res.bind_ok, jt_ok T U, Res.bind_ok, Res.bind_ok, Res.bind_ok, pairM_ok, pairM_ok]
      unfold jt
      dsimp only
      rw [T.i1]
  · rw [if_neg e, decide_eq_false (by omega)]
    rfl
theorem same_tb (t : Tb) : m_law_same_table t t = .ok true := by
  unfold m_law_same_table
  have e1 : forB m_law_same_table_b9 t.2.2 () = .ok (.nx ()) := forB_unit fun r hr => by
    unfold m_law_same_table_b9
    have e2 : forB m_law_same_table_b8 r () = .ok (.nx ()) := forB_unit fun p hp => rfl
    rw [Res.bind_ok, notM_ok, bif_eq, if_neg (by simp), Res.bind_ok, e2, Res.bind_ok, Lp.el]
  have e0 : (Res.ite (orM (notM (Res.bind (.ok t) fun _ => .ok true)) (orM (neM (Res.bind (.ok t) fun _ => .ok (3 : Int)) (.ok (3 : Int))) (notM (Res.bind (Res.bind (.ok t) fun a => .ok a.2.2) fun _ => .ok true)))) : Res Bool → Res Bool → Res Bool) = fun _ b => b := rfl
  rw [e0]
  dsimp only
  have e3 : (Res.ite (orM (notM (Res.bind (someM (Res.bind (.ok t) fun a => .ok a.1)) fun a => m_law_is_integer a)) (notM (Res.bind (someM (Res.bind (.ok t) fun a => .ok a.2.1)) fun a => m_law_is_integer a))) : Res Bool → Res Bool → Res Bool) = fun _ b => b := rfl
  rw [e3]
  dsimp only
  rw [Res.bind_ok, Res.bind_ok, e1, Res.bind_ok, Lp.el, eqM_ok, decide_eq_true rfl]
theorem refusedT {large : Bool} (h : m_join_tables t u = .exc (if large = true then 1 else 0) []) : m_law_refused false (.inr t) (.inr u) large = .ok true := by
  unfold m_law_refused getrM
  rw [Res.bind_ok, Res.bind_ok, pairM_ok, Res.bind_ok]
  dsimp only
  rw [h, bif_eq, if_neg (by simp)]
  cases large <;> rfl
theorem right_t (T : WT i o t) (U : WT i' o' u) : m_law_right_tables t u = .ok true := by
  have hb := lim_big
  have hn := T.nb
  have hm := U.nb
  have hi := T.ib
  have hnm : t.2.2.length * u.2.2.length ≤ 16 * 16 := Nat.mul_le_mul hn hm
  have hj := join_t_ok T U
  unfold m_law_right_tables
  rw [Res.bind_ok, Res.bind_ok, T.o1, U.i1, neM_ok, bif_eq]
  by_cases e : o = i'
  · subst e
    rw [if_pos rfl] at hj
    rw [decide_eq_true rfl, if_neg (by simp), Res.bind_ok, Res.bind_ok, lenM_ok, lenM_ok, mul_ok (.inl (by omega)), Res.bind_ok, Res.bind_ok, T.i1, shl1_ok (by omega), mul_ok (.inr (by rw [Int.natAbs_natCast]; have := pow_le hi; omega)), gtM_ok, gtM_ok, orM_ok]
    have e2 : (if decide ((32 : Int) < (t.2.2.length : Int) * (u.2.2.length : Int)) = true then Res.ok true else Res.ok (decide ((1024 : Int) < (t.2.2.length : Int) * (u.2.2.length : Int) * ((2 ^ i : Nat) : Int)))) = Res.ok (TL t u) := by
      unfold TL
      rw [T.i1, Int.toNat_natCast]
      by_cases q : 32 < t.2.2.length * u.2.2.length
      · rw [decide_eq_true (by exact_mod_cast q), decide_eq_true q]; rfl
      · rw [decide_eq_false (by exact_mod_cast q), decide_eq_false q, if_neg (by simp), Bool.false_or]
        push_cast
        rfl
    rw [e2, bif_eq]
    by_cases hl : TL t u = true
    · rw [if_pos hl]
      rw [if_pos hl] at hj
      exact refusedT (large := true) hj
    · rw [if_neg hl]
      rw [if_neg hl] at hj
      rw [pairM_ok, Res.bind_ok, Res.bind_ok]
      dsimp only
      rw [hj, law_jt_ok T U, pairM_ok, Res.bind_ok]
      exact same_tb _
  · rw [if_neg e] at hj
    rw [decide_eq_false (by omega), Bool.not_false, if_pos rfl]
    exact refusedT (large := false) hj
end
end G89

/-! the values of the nets -/
namespace G89
open PySem L2 Mw
def b2 (b : Bool) : Int := if b = true then 1 else 0
def gv (k : Str) (bs : List Int) : Int :=
  if k = ("zero" : Str) ∨ k = ("one" : Str) then b2 (decide (k = ("one" : Str)))
  else if k = ("mux" : Str) then gx bs (1 + gx bs 0)
  else if k = ("not" : Str) then 1 - bs.sum
  else if k = ("xor" : Str) then b2 (decide (bs.sum = 1))
  else if k = ("and" : Str) ∨ k = ("nand" : Str) then b2 (decide (decide (bs.sum = (bs.length : Int)) = decide (k = ("and" : Str))))
  else b2 (decide (decide (0 < bs.sum) = decide (k = ("or" : Str))))
structure GK (g : Gt) : Prop where
  mux : g.2.1 = ("mux" : Str) → g.2.2.length = 3
  nt : g.2.1 = ("not" : Str) → g.2.2.length = 1
  la : g.2.1 = ("latch" : Str) → g.2.2.length = 1
def B01 (bs : List Int) : Prop := ∀ x ∈ bs, x = 0 ∨ x = 1
theorem b2_01 (b : Bool) : b2 b = 0 ∨ b2 b = 1 := by cases b <;> simp [b2]
theorem ite_or {α : Type} {p q : Prop} [Decidable p] [Decidable q] {m : Res Bool} {a b : Res α} : Res.ite (orM (eqM (.ok (decide p)) (.ok true)) (.ok (decide q))) a b = if p ∨ q then a else b := by
  by_cases hp : p
  · rw [decide_eq_true hp, if_pos (.inl hp)]; rfl
  · by_cases hq : q
    · rw [decide_eq_false hp, decide_eq_true hq, if_pos (.inr hq)]; rfl
    · rw [decide_eq_false hp, decide_eq_false hq, if_neg (by simp [hp, hq])]; rfl
theorem or_if {p q : Prop} [Decidable p] [Decidable q] {α : Type} (a b : Res α) : Res.ite (orM (.ok (decide p)) (.ok (decide q))) a b = if p ∨ q then a else b := by
  by_cases hp : p
  · rw [decide_eq_true hp, if_pos (.inl hp)]; rfl
  · by_cases hq : q
    · rw [decide_eq_false hp, decide_eq_true hq, if_pos (.inr hq)]; rfl
    · rw [decide_eq_false hp, decide_eq_false hq, if_neg (by simp [hp, hq])]; rfl
theorem d_if {p : Prop} [Decidable p] {α : Type} (a b : Res α) : Res.ite (.ok (decide p)) a b = if p then a else b := by
  by_cases hp : p
  · rw [decide_eq_true hp, if_pos hp]; rfl
  · rw [decide_eq_false hp, if_neg hp]; rfl
theorem gate_ok {k : Str} {bs : List Int} (hb : B01 bs) (hm : k = ("mux" : Str) → bs.length = 3) : m_law_gate_value k bs = .ok (gv k bs) := by
  unfold m_law_gate_value gv
  rw [sumM_ok, Res.bind_ok]
  simp only [eqM_ok, lenM_ok, gtM_ok]
  rw [or_if, d_if, d_if, d_if, or_if]
  split
  · rw [b2iM_ok]; rfl
  · split
    · rename_i h
      have h3 := hm h
      rw [idxM_gx (xs := bs) (i := 0) (by omega) (by omega), addM_ok]
      have := hb (gx bs 0) (gx_mem (by omega) (by omega))
      rw [idxM_gx (by omega) (by omega)]
    · split
      · rfl
      · split
        · rw [b2iM_ok]; rfl
        · split
          · rw [b2iM_ok]; rfl
          · rw [b2iM_ok]; rfl
theorem gv_01 {g : Gt} {bs : List Int} (K : GK g) (hl : bs.length = g.2.2.length) (hb : B01 bs) : gv g.2.1 bs = 0 ∨ gv g.2.1 bs = 1 := by
  unfold gv
  split
  · exact b2_01 _
  · split
    · rename_i h
      have h3 := K.mux h
      have := hb (gx bs 0) (gx_mem (by omega) (by omega))
      exact hb _ (gx_mem (by omega) (by omega))
    · split
      · rename_i h
        have h1 := K.nt h
        match bs, hl, hb with
        | [x], _, hb =>
          have := hb x (by simp)
          simp only [List.sum_cons, List.sum_nil]
          omega
        | [], hl, _ => simp only [List.length_nil] at hl; omega
        | _ :: _ :: _, hl, _ => simp only [List.length_cons] at hl; omega
      · split
        · exact b2_01 _
        · split
          · exact b2_01 _
          · exact b2_01 _
def bases (N : Nt) : List Str := N.1 ++ (N.2.2.filter isL).map (·.1)
/-- each gate's sources are there before it -/
def Ord : List Str → List Gt → Prop
  | _, [] => True
  | b, g :: os => (∀ s ∈ g.2.2, s ∈ b) ∧ Ord (b ++ [g.1]) os
structure Wf (N : Nt) : Prop where
  wk : Wk N
  nd : (nets N).Nodup
  gk : ∀ g ∈ N.2.2, GK g
  ord : ∃ os : List Gt, (∀ g, g ∈ os ↔ g ∈ N.2.2 ∧ isL g = false) ∧ os.length ≤ N.2.2.length ∧ Ord (bases N) os
structure Sol (N : Nt) (bs : List Int) (v : Str → Int) : Prop where
  ba : (bases N).map v = bs
  eq : ∀ g ∈ N.2.2, isL g = false → v g.1 = gv g.2.1 (g.2.2.map v)
theorem ord_uniq {v w : Str → Int} : ∀ (b : List Str) (os : List Gt), Ord b os → (∀ s ∈ b, v s = w s) → (∀ g ∈ os, v g.1 = gv g.2.1 (g.2.2.map v)) → (∀ g ∈ os, w g.1 = gv g.2.1 (g.2.2.map w)) → ∀ g ∈ os, v g.1 = w g.1
  | _, [], _, _, _, _, _, hg => by cases hg
  | b, g :: os, ⟨h1, h2⟩, hb, hv, hw, g', hg => by
    have e : v g.1 = w g.1 := by
      rw [hv g (by simp), hw g (by simp)]
      congr 1
      exact List.map_congr_left fun s hs => hb s (h1 s hs)
    rcases List.mem_cons.mp hg with rfl | hg
    · exact e
    · exact ord_uniq (b ++ [g.1]) os h2 (fun s hs => by
        rcases List.mem_append.mp hs with hs | hs
        · exact hb s hs
        · rw [List.mem_singleton.mp hs]; exact e) (fun x hx => hv x (by simp [hx])) (fun x hx => hw x (by simp [hx])) g' hg
theorem mem_map_of_eq {α β : Type} {f g : α → β} : ∀ {xs : List α}, xs.map f = xs.map g → ∀ x ∈ xs, f x = g x
  | [], _, x, hx => by cases hx
  | y :: ys, h, x, hx => by
    rw [List.map_cons, List.map_cons] at h
    injection h with h1 h2
    rcases List.mem_cons.mp hx with rfl | hx
    · exact h1
    · exact mem_map_of_eq h2 x hx
theorem sol_uniq {N : Nt} (W : Wf N) {bs : List Int} {v w : Str → Int} (V : Sol N bs v) (X : Sol N bs w) : ∀ s ∈ nets N, v s = w s := by
  obtain ⟨os, h1, h2, h3⟩ := W.ord
  have hb : ∀ s ∈ bases N, v s = w s := mem_map_of_eq (V.ba.trans X.ba.symm)
  have ho := ord_uniq (v := v) (w := w) _ _ h3 hb (fun g hg => V.eq g ((h1 g).mp hg).1 ((h1 g).mp hg).2) (fun g hg => X.eq g ((h1 g).mp hg).1 ((h1 g).mp hg).2)
  intro s hs
  rcases List.mem_append.mp hs with hs | hs
  · exact hb s (List.mem_append_left _ hs)
  · obtain ⟨g, hg, rfl⟩ := List.mem_map.mp hs
    cases e : isL g with
    | false => exact ho g ((h1 g).mpr ⟨hg, e⟩)
    | true => exact hb _ (List.mem_append_right _ (List.mem_map.mpr ⟨g, List.mem_filter.mpr ⟨hg, e⟩, rfl⟩))
theorem base_sub {N : Nt} {s : Str} (h : s ∈ bases N) : s ∈ nets N := by
  rcases List.mem_append.mp h with h | h
  · exact List.mem_append_left _ h
  · obtain ⟨g, hg, rfl⟩ := List.mem_map.mp h
    exact List.mem_append_right _ (List.mem_map.mpr ⟨g, (List.mem_filter.mp hg).1, rfl⟩)
/-! ### the law's loop -/
abbrev Dv := List (Str × Int)
def HasV (d : Dv) (s : Str) : Prop := (dget d s).isSome = true
def val (d : Dv) (s : Str) : Int := (dget d s).getD 0
theorem val_ok {d : Dv} {s : Str} (h : HasV d s) : dgetM d (.ok s) = .ok (val d s) := by
  unfold HasV at h
  show optM (dget d s) = _
  unfold val
  cases e : dget d s with
  | none => rw [e] at h; cases h
  | some b => rfl
theorem hasV_dput {d : Dv} {k s : Str} {x : Int} : HasV (dput d k x) s ↔ s = k ∨ HasV d s := by
  unfold HasV
  rw [dget_dput]
  by_cases e : s = k
  · rw [if_pos e]; exact ⟨fun _ => .inl e, fun _ => rfl⟩
  · rw [if_neg e]; exact ⟨fun h => .inr h, fun h => h.resolve_left e⟩
theorem val_dput {d : Dv} {k s : Str} {x : Int} : val (dput d k x) s = if s = k then x else val d s := by
  unfold val
  rw [dget_dput]
  split <;> rfl
structure Iv (N : Nt) (bs : List Int) (d : Dv) : Prop where
  hb : ∀ s ∈ bases N, HasV d s
  ba : (bases N).map (val d) = bs
  eq : ∀ g ∈ N.2.2, isL g = false → HasV d g.1 → (∀ s ∈ g.2.2, HasV d s) ∧ val d g.1 = gv g.2.1 (g.2.2.map (val d))
  b01 : ∀ s, HasV d s → val d s = 0 ∨ val d s = 1
  nd : (d.map (·.1)).Nodup
  sub : ∀ p ∈ d, p.1 ∈ nets N
section
variable {N : Nt} {bs : List Int}
theorem inj_nd {α β : Type} {f : α → β} : ∀ {xs : List α}, (xs.map f).Nodup → ∀ {a b}, a ∈ xs → b ∈ xs → f a = f b → a = b
  | [], _, _, _, h, _, _ => by cases h
  | x :: xs, nd, a, b, ha, hb, e => by
    rw [List.map_cons, List.nodup_cons] at nd
    rcases List.mem_cons.mp ha with ha | ha
    · rcases List.mem_cons.mp hb with hb | hb
      · rw [ha, hb]
      · exact absurd (List.mem_map.mpr ⟨b, hb, by rw [← e, ha]⟩) nd.1
    · rcases List.mem_cons.mp hb with hb | hb
      · exact absurd (List.mem_map.mpr ⟨a, ha, by rw [e, hb]⟩) nd.1
      · exact inj_nd nd.2 ha hb e
theorem nodup_name (W : Wf N) {g h : Gt} (hg : g ∈ N.2.2) (hh : h ∈ N.2.2) (e : g.1 = h.1) : g = h := by
  have nd := W.nd
  unfold nets at nd
  have := (List.nodup_append.mp nd).2.1
  exact inj_nd this hg hh e
theorem dput_lenV (d : Dv) (k : Str) (x : Int) : (dput d k x).length ≤ d.length + 1 := dput_len d k x
theorem base_ne {g : Gt} (W : Wf N) (hg : g ∈ N.2.2) (hl : isL g = false) : g.1 ∉ bases N := by
  intro h
  rcases List.mem_append.mp h with h | h
  · have nd := W.nd
    unfold nets at nd
    exact (List.nodup_append.mp nd).2.2 _ h _ (List.mem_map.mpr ⟨g, hg, rfl⟩) rfl
  · obtain ⟨g', hg', e⟩ := List.mem_map.mp h
    obtain ⟨h1, h2⟩ := List.mem_filter.mp hg'
    rw [nodup_name W h1 hg e, hl] at h2
    cases h2
theorem nd_len : ∀ {xs ys : List Str}, xs.Nodup → (∀ x ∈ xs, x ∈ ys) → xs.length ≤ ys.length
  | [], _, _, _ => Nat.zero_le _
  | x :: xs, ys, nd, h => by
    rw [List.nodup_cons] at nd
    have hx := h x (by simp)
    have := nd_len (xs := xs) (ys := ys.erase x) nd.2 fun y hy => (List.mem_erase_of_ne (fun e => nd.1 (by rw [← e]; exact hy))).mpr (h y (by simp [hy]))
    rw [List.length_erase_of_mem hx] at this
    have := List.length_pos_of_mem hx
    rw [List.length_cons]
    omega
theorem Iv.short (W : Wf N) {d : Dv} (I : Iv N bs d) : d.length ≤ 70 := by
  have := nd_len I.nd (ys := nets N) fun x hx => by
    obtain ⟨p, hp, rfl⟩ := List.mem_map.mp hx
    exact I.sub p hp
  rw [List.length_map] at this
  exact Nat.le_trans this (nets_len W.wk)
theorem key_has {d : Dv} {s : Str} : s ∈ d.map (·.1) ↔ HasV d s := by
  unfold HasV
  rw [← any_isSome, List.any_eq_true, List.mem_map]
  exact ⟨fun ⟨p, hp, e⟩ => ⟨p, hp, decide_eq_true e⟩, fun ⟨p, hp, e⟩ => ⟨p, hp, of_decide_eq_true e⟩⟩
theorem put_iv (W : Wf N) {d : Dv} (I : Iv N bs d) {g : Gt} (hg : g ∈ N.2.2) (hl : isL g = false) (hn : ¬ HasV d g.1) (hs : ∀ s ∈ g.2.2, HasV d s) : Iv N bs (dput d g.1 (gv g.2.1 (g.2.2.map (val d)))) := by
  have keep : ∀ s, HasV d s → val (dput d g.1 (gv g.2.1 (g.2.2.map (val d)))) s = val d s := fun s h => by
    rw [val_dput, if_neg]
    intro e; rw [e] at h; exact hn h
  refine ⟨fun s h => hasV_dput.mpr (.inr (I.hb s h)), ?_, fun h hh hhl hhas => ?_, fun s h => ?_, ?_, ?_⟩
  · rw [← I.ba]
    exact List.map_congr_left fun s h => keep s (I.hb s h)
  · by_cases e : h.1 = g.1
    · have := nodup_name W hh hg e
      subst this
      refine ⟨fun s hs' => hasV_dput.mpr (.inr (hs s hs')), ?_⟩
      rw [val_dput, if_pos rfl]
      congr 1
      exact List.map_congr_left fun s hs' => (keep s (hs s hs')).symm
    · have hd' : HasV d h.1 := (hasV_dput.mp hhas).resolve_left e
      obtain ⟨h1, h2⟩ := I.eq h hh hhl hd'
      refine ⟨fun s hs' => hasV_dput.mpr (.inr (h1 s hs')), ?_⟩
      rw [keep _ hd', h2]
      congr 1
      exact List.map_congr_left fun s hs' => (keep s (h1 s hs')).symm
  · by_cases e : s = g.1
    · rw [val_dput, if_pos e]
      exact gv_01 (W.gk g hg) (by rw [List.length_map]) fun x hx => by
        obtain ⟨s, hs', rfl⟩ := List.mem_map.mp hx
        exact I.b01 s (hs s hs')
    · have := (hasV_dput.mp h).resolve_left e
      rw [keep s this]; exact I.b01 s this
  · rw [dput_new hn, List.map_append, List.nodup_append]
    refine ⟨I.nd, by simp, fun a ha b hb e => ?_⟩
    simp only [List.map_cons, List.map_nil, List.mem_singleton] at hb
    rw [e, hb] at ha
    exact hn (key_has.mp ha)
  · intro p hp
    rw [dput_new hn] at hp
    rcases List.mem_append.mp hp with hp | hp
    · exact I.sub p hp
    · rw [List.mem_singleton.mp hp]
      exact List.mem_append_right _ (List.mem_map.mpr ⟨g, hg, rfl⟩)
theorem b18_ok (W : Wf N) {d : Dv} (I : Iv N bs d) {g : Gt} (hg : g ∈ N.2.2) (hl : isL g = false) (hn : ¬ HasV d g.1) : ∃ d', m_law_ends_b18 g d = .ok d' ∧ Iv N bs d' ∧ (∀ s, HasV d s → HasV d' s) ∧ (∀ s, HasV d' s → HasV d s ∨ s = g.1) ∧ ((∀ s ∈ g.2.2, HasV d s) → HasV d' g.1) := by
  have hb := lim_big
  have hd := I.short W
  have ha := W.wk.ar g hg
  have ef : (lcB (fun (x13 : Str) => (dinM d (.ok x13))) (fun (x13 : Str) => (.ok x13)) (.ok g.2.2)) = .ok (g.2.2.filter fun s => (dget d s).isSome) := lcB_filter (fun s => (dget d s).isSome) (by omega) fun s _ => rfl
  unfold m_law_ends_b18
  rw [Res.bind_ok, ef, Res.bind_ok, Res.bind_ok, lenM_ok, lenM_ok, eqM_ok, bif_eq]
  by_cases q : ∀ s ∈ g.2.2, HasV d s
  · have e1 : g.2.2.filter (fun s => (dget d s).isSome) = g.2.2 := List.filter_eq_self.mpr q
    rw [e1, if_pos (decide_eq_true rfl)]
    simp only [Res.bind_ok]
    rw [lcB_map (val d) (by omega) (fun s hs => val_ok (q s hs)), pairM_ok, Res.bind_ok]
    dsimp only
    rw [gate_ok (fun x hx => by
      obtain ⟨s, hs', rfl⟩ := List.mem_map.mp hx
      exact I.b01 s (q s hs')) (fun hk => by rw [List.length_map]; exact (W.gk g hg).mux hk)]
    refine ⟨dput d g.1 (gv g.2.1 (g.2.2.map (val d))), ?_, put_iv W I hg hl hn q, fun s h => hasV_dput.mpr (.inr h), fun s h => (hasV_dput.mp h).symm, fun _ => hasV_dput.mpr (.inl rfl)⟩
    show (if d.length < lim then _ else _) = _
    rw [if_pos (by omega)]
  · have e1 : ¬ (g.2.2.filter (fun s => (dget d s).isSome)).length = g.2.2.length := fun e => q (List.filter_eq_self.mp (List.filter_sublist.eq_of_length e))
    rw [if_neg (by rw [decide_eq_true_iff]; omega)]
    exact ⟨d, rfl, I, fun s h => h, fun s h => .inl h, fun z => absurd z q⟩
theorem left_ok (W : Wf N) : ∀ (gs : List Gt) (d : Dv), (gs.map (·.1)).Nodup → (∀ g ∈ gs, g ∈ N.2.2 ∧ isL g = false ∧ ¬ HasV d g.1) → Iv N bs d → ∃ d', Mw.forM m_law_ends_b18 gs d = .ok d' ∧ Iv N bs d' ∧ (∀ s, HasV d s → HasV d' s) ∧ (∀ g ∈ gs, (∀ s ∈ g.2.2, HasV d s) → HasV d' g.1)
  | [], d, _, _, I => ⟨d, rfl, I, fun s h => h, (fun g hg => by cases hg)⟩
  | g :: gs, d, nd, hg, I => by
    rw [List.map_cons, List.nodup_cons] at nd
    obtain ⟨h1, h2, h3⟩ := hg g (by simp)
    obtain ⟨d1, e1, I1, m1, k1, s1⟩ := b18_ok W I h1 h2 h3
    obtain ⟨d2, e2, I2, m2, s2⟩ := left_ok W gs d1 nd.2 (fun x hx => by
      obtain ⟨a, b, c⟩ := hg x (by simp [hx])
      refine ⟨a, b, fun z => ?_⟩
      rcases k1 _ z with z | z
      · exact c z
      · exact nd.1 (by rw [← z]; exact List.mem_map.mpr ⟨x, hx, rfl⟩)) I1
    refine ⟨d2, ?_, I2, fun s h => m2 s (m1 s h), fun x hx hs => ?_⟩
    · unfold Mw.forM
      rw [e1, Res.bind_ok, e2]
    · rcases List.mem_cons.mp hx with rfl | hx
      · exact m2 _ (s1 hs)
      · exact s2 x hx fun s h => m1 s (hs s h)
end
end G89

namespace G89
open PySem L2 Mw
theorem forB_turns {S ρ : Type} {f : Int → S → Res (Tn S ρ)} {P : Nat → S → Prop} {F : S → Prop} {n : Nat} {s : S} (h0 : P 0 s) (hn : ∀ s, P n s → F s) (h : ∀ (k : Nat) s, k < n → P k s → (∃ s', f (k : Int) s = .ok (.nx s') ∧ P (k + 1) s') ∨ ∃ s', f (k : Int) s = .ok (.bk s') ∧ F s') : ∃ s', forB f (rgL 0 n) s = .ok (.nx s') ∧ F s' := by
  have key : ∀ (m lo : Nat) (s : S), lo + m = n → P lo s → ∃ s', forB f (rgL (lo : Int) m) s = .ok (.nx s') ∧ F s' := by
    intro m
    induction m with
    | zero =>
      intro lo s e p
      have : lo = n := by omega
      exact ⟨s, rfl, hn s (this ▸ p)⟩
    | succ m ih =>
      intro lo s e p
      rw [rgL_cons]
      unfold forB
      rcases h lo s (by omega) p with ⟨s1, e1, p1⟩ | ⟨s1, e1, p1⟩
      · rw [e1, Res.bind_ok]
        exact ih (lo + 1) s1 (by omega) p1
      · rw [e1, Res.bind_ok]
        exact ⟨s1, rfl, p1⟩
  exact key n 0 s (by omega) h0
theorem ord_src : ∀ (b : List Str) (os : List Gt), Ord b os → ∀ (t : Nat) (ht : t < os.length), ∀ s ∈ os[t].2.2, s ∈ b ∨ ∃ g ∈ os.take t, g.1 = s
  | b, g :: os, ⟨h1, h2⟩, 0, ht, s, hs => .inl (h1 s hs)
  | b, g :: os, ⟨h1, h2⟩, t + 1, ht, s, hs => by
    rcases ord_src (b ++ [g.1]) os h2 t (by simpa using ht) s hs with h | ⟨g', hg', e⟩
    · rcases List.mem_append.mp h with h | h
      · exact .inl h
      · exact .inr ⟨g, by simp, (List.mem_singleton.mp h).symm⟩
    · exact .inr ⟨g', by rw [List.take_succ_cons]; exact List.mem_cons_of_mem _ hg', e⟩
section
variable {N : Nt} {bs : List Int}
/-- all is known -/
structure Full (N : Nt) (bs : List Int) (d : Dv) : Prop where
  iv : Iv N bs d
  al : ∀ g ∈ N.2.2, isL g = false → HasV d g.1
theorem Full.has {d : Dv} (F : Full N bs d) {s : Str} (h : s ∈ nets N) : HasV d s := by
  rcases List.mem_append.mp h with h | h
  · exact F.iv.hb s (List.mem_append_left _ h)
  · obtain ⟨g, hg, rfl⟩ := List.mem_map.mp h
    cases e : isL g with
    | false => exact F.al g hg e
    | true => exact F.iv.hb _ (List.mem_append_right _ (List.mem_map.mpr ⟨g, List.mem_filter.mpr ⟨hg, e⟩, rfl⟩))
theorem Full.sol {d : Dv} (F : Full N bs d) : Sol N bs (val d) := ⟨F.iv.ba, fun g hg hl => (F.iv.eq g hg hl (F.al g hg hl)).2⟩
theorem turns_ok (W : Wf N) {d0 : Dv} (I0 : Iv N bs d0) : ∃ d, forB (m_law_ends_b21 N) (rgL 0 N.2.2.length) d0 = .ok (.nx d) ∧ Full N bs d := by
  have hs := W.wk.sz
  obtain ⟨os, h1, h2, h3⟩ := W.ord
  have ndn : (N.2.2.map (·.1)).Nodup := (List.nodup_append.mp W.nd).2.1
  let un : Dv → Nat := fun d => (N.2.2.filter fun g => !(dget d g.1).isSome).length
  refine forB_turns (P := fun t d => Iv N bs d ∧ (∀ g ∈ os.take t, HasV d g.1)) (F := Full N bs) ⟨I0, (fun g hg => by simp at hg)⟩ (fun d ⟨I, ho⟩ => ⟨I, fun g hg hl => ho g (by rw [List.take_of_length_le h2]; exact (h1 g).mpr ⟨hg, hl⟩)⟩) fun t d ht ⟨I, ho⟩ => ?_
  · have ef : (lcB (fun (x9 : (Str × Str × (List Str))) => (notM (dinM d (Res.bind (.ok x9) fun a => .ok a.1)))) (fun (x9 : (Str × Str × (List Str))) => (.ok x9)) (.ok N.2.2)) = .ok (N.2.2.filter fun g => !(dget d g.1).isSome) := lcB_filter (fun g : Gt => !(dget d g.1).isSome) (by omega) fun g _ => rfl
    have hun : (N.2.2.filter fun g => !(dget d g.1).isSome).length = un d := rfl
    have hm : ∀ g ∈ N.2.2.filter (fun g => !(dget d g.1).isSome), g ∈ N.2.2 ∧ isL g = false ∧ ¬ HasV d g.1 := fun g hg => by
      obtain ⟨a, b⟩ := List.mem_filter.mp hg
      have hn : ¬ HasV d g.1 := fun z => by unfold HasV at z; rw [z] at b; cases b
      refine ⟨a, ?_, hn⟩
      cases e : isL g with
      | false => rfl
      | true => exact absurd (I.hb _ (List.mem_append_right _ (List.mem_map.mpr ⟨g, List.mem_filter.mpr ⟨a, e⟩, rfl⟩))) hn
    have hin : ∀ g ∈ N.2.2, ¬ HasV d g.1 → g ∈ N.2.2.filter (fun g => !(dget d g.1).isSome) := fun g hg hn => List.mem_filter.mpr ⟨hg, by
      unfold HasV at hn
      cases q : (dget d g.1).isSome with
      | false => rfl
      | true => exact absurd q hn⟩
    have ndl : ((N.2.2.filter fun g => !(dget d g.1).isSome).map (·.1)).Nodup := List.Nodup.sublist (List.Sublist.map _ List.filter_sublist) ndn
    unfold m_law_ends_b21
    rw [Res.bind_ok, ef, Res.bind_ok, lenM_ok, eqM_ok, bif_eq, hun]
    by_cases q : un d = 0
    · right
      rw [if_pos (by rw [decide_eq_true_iff]; omega)]
      refine ⟨d, rfl, I, fun g hg hl => ?_⟩
      apply Classical.byContradiction
      intro hn
      have := List.length_pos_of_mem (hin g hg hn)
      omega
    · left
      rw [if_neg (by rw [decide_eq_true_iff]; omega), Res.bind_ok]
      obtain ⟨d', e, I', m, s⟩ := left_ok W _ d ndl hm I
      rw [e, Res.bind_ok]
      refine ⟨d', rfl, I', ?_⟩
      · by_cases hto : t < os.length
        · intro g hg
          rw [List.take_succ_eq_append_getElem hto] at hg
          rcases List.mem_append.mp hg with hg | hg
          · exact m _ (ho g hg)
          · have eg := List.mem_singleton.mp hg
            by_cases hh : HasV d g.1
            · exact m _ hh
            · obtain ⟨a, b⟩ := (h1 g).mp (by rw [eg]; exact List.getElem_mem hto)
              refine s g (hin g a hh) fun z hz => ?_
              rw [eg] at hz
              rcases ord_src _ _ h3 t hto z hz with hz | ⟨g', hg', e'⟩
              · exact I.hb z hz
              · rw [← e']; exact ho g' hg'
        · intro g hg
          rw [List.take_of_length_le (by omega)] at hg
          exact m _ (ho g (by rw [List.take_of_length_le (by omega)]; exact hg))
end
end G89

namespace G89
open PySem L2 Mw
theorem fold_zip : ∀ (ps d : List (Str × Int)), ((d ++ ps).map (·.1)).Nodup → ps.foldl (fun d p => dput d p.1 p.2) d = d ++ ps
  | [], d, _ => by simp
  | p :: ps, d, h => by
    have hn : ¬ (dget d p.1).isSome = true := by
      rw [List.map_append, List.map_cons, List.nodup_append] at h
      intro z
      exact h.2.2 p.1 (key_has.mpr z) p.1 (by simp) rfl
    rw [List.foldl_cons, dput_new hn, fold_zip ps _ (by rw [List.append_assoc]; exact h), List.append_assoc]
    rfl
theorem val_cons (p : Str × Int) (d : Dv) (s : Str) : val (p :: d) s = if p.1 = s then p.2 else val d s := by
  unfold val
  rw [dget_cons]
  split <;> rfl
theorem map_val_zip : ∀ (ns : List Str) (bs : List Int), ns.Nodup → ns.length = bs.length → ns.map (val (ns.zip bs)) = bs
  | [], [], _, _ => rfl
  | [], _ :: _, _, h => by simp at h
  | _ :: _, [], _, h => by simp at h
  | n :: ns, b :: bs, nd, h => by
    rw [List.nodup_cons] at nd
    rw [List.zip_cons_cons, List.map_cons, val_cons, if_pos rfl]
    congr 1
    have : ns.map (val ((n, b) :: ns.zip bs)) = ns.map (val (ns.zip bs)) := List.map_congr_left fun s hs => by
      rw [val_cons, if_neg]
      intro e
      exact nd.1 (by rw [show n = s from e]; exact hs)
    rw [this]
    exact map_val_zip ns bs nd.2 (by simpa using h)
section
variable {N : Nt} {bs : List Int}
theorem bases_nd (W : Wf N) : (bases N).Nodup := by
  have nd := W.nd
  unfold nets at nd
  unfold bases
  rw [List.nodup_append] at nd ⊢
  refine ⟨nd.1, List.Nodup.sublist (List.Sublist.map _ List.filter_sublist) nd.2.1, fun a ha b hb => nd.2.2 a ha b ?_⟩
  obtain ⟨g, hg, rfl⟩ := List.mem_map.mp hb
  exact List.mem_map.mpr ⟨g, (List.mem_filter.mp hg).1, rfl⟩
theorem bases_len (W : Wf N) : (bases N).length ≤ 70 := by
  have := W.wk.sz
  unfold bases
  have h2 : (N.2.2.filter isL).length ≤ N.2.2.length := List.length_filter_le ..
  rw [List.length_append, List.length_map]
  omega
theorem init_iv (W : Wf N) (hl : (bases N).length = bs.length) (h01 : B01 bs) : Iv N bs ((bases N).zip bs) := by
  have hk : ((bases N).zip bs).map (·.1) = bases N := List.map_fst_zip (by omega)
  have ba := map_val_zip (bases N) bs (bases_nd W) hl
  have hh : ∀ s, HasV ((bases N).zip bs) s ↔ s ∈ bases N := fun s => by rw [← key_has, hk]
  refine ⟨fun s hs => (hh s).mpr hs, ba, fun g hg hgl h => absurd ((hh _).mp h) (base_ne W hg hgl), fun s hs => ?_, by rw [hk]; exact bases_nd W, fun p hp => base_sub (by rw [← hk]; exact List.mem_map.mpr ⟨p, hp, rfl⟩)⟩
  refine h01 _ ?_
  have h2 : val ((bases N).zip bs) s ∈ (bases N).map (val ((bases N).zip bs)) := List.mem_map.mpr ⟨s, (hh s).mp hs, rfl⟩
  rw [ba] at h2
  exact h2
theorem init_ok (W : Wf N) (hl : (bases N).length = bs.length) : Mw.forM (m_law_ends_b22 bs (bases N)) (rgL 0 (bases N).length) [] = .ok ((bases N).zip bs) := by
  have hb := lim_big
  have h70 := bases_len W
  have hz : ((bases N).zip bs).length = (bases N).length := by rw [List.length_zip]; omega
  have hk : ((bases N).zip bs).map (·.1) = bases N := List.map_fst_zip (by omega)
  rw [← hz, rg_en, forM_map]
  rw [forM_fl (g := fun (d : Dv) (p : Nat × (Str × Int)) => dput d p.2.1 p.2.2) (m := List.length) (n := 99) (by rw [enN_len]; simp only [List.length_nil]; omega) fun p hp d hd => by
    refine ⟨?_, dput_lenV _ _ _⟩
    have hlt := enN_lt 0 _ p hp
    have hg : ((bases N).zip bs)[p.1]? = some p.2 := by
      have := enN_get 0 _ p hp
      rw [Nat.sub_zero, gx_nat (by omega)] at this
      rw [List.getElem?_eq_getElem (by omega), this]
    rw [List.getElem?_zip_eq_some] at hg
    obtain ⟨g1, g2⟩ := hg
    have i1 : idxM (.ok (bases N)) (.ok (p.1 : Int)) = .ok p.2.1 := by
      rw [idxM_ok, atI_nat g1]; rfl
    have i2 : idxM (.ok bs) (.ok (p.1 : Int)) = .ok p.2.2 := by
      rw [idxM_ok, atI_nat g2]; rfl
    unfold m_law_ends_b22
    rw [i1, i2]
    show (if d.length < lim then _ else _) = _
    rw [if_pos (by omega)]]
  have e : (enN 0 ((bases N).zip bs)).foldl (fun (d : Dv) (p : Nat × (Str × Int)) => dput d p.2.1 p.2.2) [] = ((bases N).zip bs).foldl (fun d p => dput d p.1 p.2) [] := by
    conv => rhs; rw [← enN_snd 0 ((bases N).zip bs)]
    rw [List.foldl_map]
  rw [e, fold_zip _ _ (by rw [List.nil_append, hk]; exact bases_nd W), List.nil_append]
/-- the first source -/
def s0 (g : Gt) : Str := gx g.2.2 0
def endL (N : Nt) (v : Str → Int) : List Int := N.2.1.map v ++ (N.2.2.filter isL).map fun g => v (s0 g)
theorem s0_mem (W : Wf N) {g : Gt} (hg : g ∈ N.2.2) (hl : isL g = true) : s0 g ∈ nets N := by
  have := (W.gk g hg).la (of_decide_eq_true hl)
  exact W.wk.src g hg _ (gx_mem (by omega) (by omega))
theorem ends_ok (W : Wf N) (hl : (bases N).length = bs.length) (h01 : B01 bs) : ∃ v, Sol N bs v ∧ (∀ s ∈ nets N, v s = 0 ∨ v s = 1) ∧ m_law_ends N bs = .ok (endL N v) := by
  have hs := W.wk.sz
  have h70 := bases_len W
  have hlat : (N.2.2.filter isL).length ≤ N.2.2.length := List.length_filter_le ..
  obtain ⟨d, e, F⟩ := turns_ok W (init_iv W hl h01)
  refine ⟨val d, F.sol, fun s h => F.iv.b01 s (F.has h), ?_⟩
  have hi := init_ok W hl
  have hbs : N.1 ++ (N.2.2.filter isL).map (·.1) = bases N := rfl
  unfold m_law_ends
  rw [Res.bind_ok, latches_eq (by omega), Res.bind_ok, Res.bind_ok, Res.bind_ok]
  have en : lcB (fun (x3 : (Str × Str × (List Str))) => .ok true) (fun (x3 : (Str × Str × (List Str))) => (Res.bind (.ok x3) fun a => .ok a.1)) (.ok (N.2.2.filter isL)) = .ok ((N.2.2.filter isL).map (·.1)) := lcB_map _ (by omega) (fun _ _ => rfl)
  rw [en, catM_ok _ _ (by rw [List.length_map]; omega), hbs, Res.bind_ok, Res.bind_ok, lenM_ok, rng1_ok (by omega), Res.bind_ok, hi, Res.bind_ok, lenM_ok, rng1_ok (by omega), Res.bind_ok, e, Res.bind_ok, Lp.el]
  rw [Res.bind_ok, lcB_map (val d) (by omega) (fun s hs => val_ok (F.has (W.wk.out s hs)))]
  rw [lcB_map (fun g : Gt => val d (s0 g)) (by omega) (fun g hg => by
    obtain ⟨h1, h2⟩ := List.mem_filter.mp hg
    have := (W.gk g h1).la (of_decide_eq_true h2)
    rw [Res.bind_ok, idxM_gx (by omega) (by omega)]
    exact val_ok (F.has (s0_mem W h1 h2)))]
  rw [catM_ok _ _ (by rw [List.length_map, List.length_map]; omega)]
  rfl
end
end G89

/-! the joined netlist is a good one -/
namespace G89
open PySem L2 Mw
/-! dicts whose keys are all different -/
theorem keys_has {d : Dc} {s : Str} : s ∈ d.map (·.1) ↔ Has d s := by
  unfold Has
  rw [← any_isSome, List.any_eq_true, List.mem_map]
  exact ⟨fun ⟨p, hp, e⟩ => ⟨p, hp, decide_eq_true e⟩, fun ⟨p, hp, e⟩ => ⟨p, hp, of_decide_eq_true e⟩⟩
theorem fold_new {β : Type} {k : β → Str} {v : Dc → β → Str} : ∀ (xs : List β) (d : Dc), ((d.map (·.1)) ++ xs.map k).Nodup → ∃ e : Dc, xs.foldl (fun d x => dput d (k x) (v d x)) d = d ++ e ∧ e.map (·.1) = xs.map k
  | [], d, _ => ⟨[], by simp, rfl⟩
  | x :: xs, d, h => by
    have hn : ¬ (dget d (k x)).isSome = true := by
      rw [List.map_cons, List.nodup_append] at h
      intro z
      exact h.2.2 (k x) (keys_has.mpr z) (k x) (by simp) rfl
    obtain ⟨e, h1, h2⟩ := fold_new (k := k) (v := v) xs (d ++ [(k x, v d x)]) (by rw [List.map_append, List.append_assoc]; exact h)
    refine ⟨(k x, v d x) :: e, ?_, by rw [List.map_cons, List.map_cons, h2]⟩
    rw [List.foldl_cons, dput_new hn, h1, List.append_assoc]
    rfl
theorem look_cons (p : Str × Str) (d : Dc) (s : Str) : look (p :: d) s = if p.1 = s then p.2 else look d s := by
  unfold look
  rw [dget_cons]
  split <;> rfl
theorem map_look : ∀ (d : Dc), (d.map (·.1)).Nodup → (d.map (·.1)).map (look d) = d.map (·.2)
  | [], _ => rfl
  | p :: d, h => by
    rw [List.map_cons, List.nodup_cons] at h
    rw [List.map_cons, List.map_cons, List.map_cons, look_cons, if_pos rfl]
    congr 1
    rw [← map_look d h.2]
    exact List.map_congr_left fun s hs => by
      rw [look_cons, if_neg]
      intro e
      exact h.1 (by rw [e]; exact hs)
theorem nfold_eq : ∀ (xs : List Str) (d : Dc), ((d.map (·.1)) ++ xs).Nodup → xs.foldl nstep d = d ++ (enN d.length xs).map fun p => (p.2, aS p.1)
  | [], d, _ => by simp [enN]
  | x :: xs, d, h => by
    have hn : ¬ (dget d x).isSome = true := by
      rw [List.nodup_append] at h
      intro z
      exact h.2.2 x (keys_has.mpr z) x (by simp) rfl
    rw [List.foldl_cons, enN, List.map_cons]
    have e : nstep d x = d ++ [(x, aS d.length)] := dput_new hn _
    rw [e, nfold_eq xs _ (by rw [List.map_append, List.append_assoc]; exact h), List.append_assoc, List.length_append]
    rfl
theorem ofold_eq : ∀ (ps : List (Nat × Gt)) (d : Dc), ((d.map (·.1)) ++ ps.map (fun p => p.2.1)).Nodup → ps.foldl gstep d = d ++ ps.map fun p => (p.2.1, bS p.1)
  | [], d, _ => by simp
  | p :: ps, d, h => by
    have hn : ¬ (dget d p.2.1).isSome = true := by
      rw [List.map_cons, List.nodup_append] at h
      intro z
      exact h.2.2 p.2.1 (keys_has.mpr z) p.2.1 (by simp) rfl
    have e : gstep d p = d ++ [(p.2.1, bS p.1)] := dput_new hn _
    rw [List.foldl_cons, e, ofold_eq ps _ (by rw [List.map_append, List.append_assoc]; exact h), List.append_assoc]
    rfl
theorem cfold_eq (D : Dc) : ∀ (ps : List (Str × Str)) (d : Dc), ((d.map (·.1)) ++ ps.map (·.1)).Nodup → ps.foldl (cstep D) d = d ++ ps.map fun p => (p.1, look D p.2)
  | [], d, _ => by simp
  | p :: ps, d, h => by
    have hn : ¬ (dget d p.1).isSome = true := by
      rw [List.map_cons, List.nodup_append] at h
      intro z
      exact h.2.2 p.1 (keys_has.mpr z) p.1 (by simp) rfl
    have e : cstep D d p = d ++ [(p.1, look D p.2)] := dput_new hn _
    rw [List.foldl_cons, e, cfold_eq D ps _ (by rw [List.map_append, List.append_assoc]; exact h), List.append_assoc]
    rfl
theorem enN_names {β : Type} (f : β → Str) (xs : List β) (i : Nat) : (enN i xs).map (fun p => f p.2) = xs.map f := by
  have := congrArg (List.map f) (enN_snd i xs)
  rw [List.map_map] at this
  exact this
section
variable {A B : Nt}
theorem na_map (nd : (nets A).Nodup) : (nets A).map (look (nfold A)) = (enN 0 (nets A)).map fun p => aS p.1 := by
  have e : nfold A = (enN 0 (nets A)).map fun p => (p.2, aS p.1) := by
    have := nfold_eq (nets A) [] (by simpa using nd)
    exact this
  have hk : (nfold A).map (·.1) = nets A := by
    rw [e, List.map_map]
    exact enN_snd 0 (nets A)
  have := map_look (nfold A) (by rw [hk]; exact nd)
  rw [hk] at this
  rw [this, e, List.map_map]
  rfl
theorem o_eq (nd : (nets B).Nodup) (h : B.1.length = A.2.1.length) : ofold A B = (zipf B A).map (fun p => (p.1, look (nfold A) p.2)) ++ (enN 0 B.2.2).map fun p => (p.2.1, bS p.1) := by
  have hz : (zipf B A).map (·.1) = B.1 := by unfold zipf; exact List.map_fst_zip (by omega)
  unfold nets at nd
  unfold ofold
  rw [cfold_eq _ _ _ (by rw [hz]; exact (List.nodup_append.mp nd).1), List.nil_append, ofold_eq]
  rw [List.map_map]
  have e1 : (zipf B A).map ((fun p : Str × Str => p.1) ∘ fun p => (p.1, look (nfold A) p.2)) = B.1 := hz
  rw [e1, enN_names (fun g : Gt => g.1)]
  exact nd
theorem nb_map (nd : (nets B).Nodup) (h : B.1.length = A.2.1.length) : B.1.map (look (ofold A B)) = A.2.1.map (look (nfold A)) ∧ (B.2.2.map (·.1)).map (look (ofold A B)) = (enN 0 B.2.2).map fun p => bS p.1 := by
  have hz : (zipf B A).map (·.1) = B.1 := by unfold zipf; exact List.map_fst_zip (by omega)
  have hz2 : (zipf B A).map (·.2) = A.2.1 := by unfold zipf; exact List.map_snd_zip (by omega)
  have e := o_eq nd h
  have hk : (ofold A B).map (·.1) = nets B := by
    rw [e, List.map_append, List.map_map, List.map_map]
    have e1 : (zipf B A).map ((fun p : Str × Str => p.1) ∘ fun p => (p.1, look (nfold A) p.2)) = B.1 := hz
    have e2 : (enN 0 B.2.2).map ((fun p : Str × Str => p.1) ∘ fun p => (p.2.1, bS p.1)) = B.2.2.map (·.1) := enN_names (fun g : Gt => g.1) _ _
    rw [e1, e2]; rfl
  have hm := map_look (ofold A B) (by rw [hk]; exact nd)
  rw [hk] at hm
  have e3 : (ofold A B).map (·.2) = A.2.1.map (look (nfold A)) ++ (enN 0 B.2.2).map fun p => bS p.1 := by
    rw [e, List.map_append, List.map_map, List.map_map]
    congr 1
    rw [← hz2, List.map_map]
    rfl
  rw [e3] at hm
  unfold nets at hm
  rw [List.map_append] at hm
  exact List.append_inj hm (by rw [List.length_map, List.length_map]; exact h)
theorem aS_inj {i j : Nat} (hi : i < 100) (hj : j < 100) (h : aS i = aS j) : i = j := strI_inj hi hj (app_inj h)
theorem bS_inj {i j : Nat} (hi : i < 100) (hj : j < 100) (h : bS i = bS j) : i = j := strI_inj hi hj (app_inj h)
theorem ab_ne (i j : Nat) : aS i ≠ bS j := fun h => by
  have h1 : (aS i).cps[0]? = (bS j).cps[0]? := by rw [h]
  unfold aS bS at h1
  rw [app_cps, app_cps] at h1
  have ea : ("a" : Str).cps = #[97] := by decide +kernel
  have eb : ("b" : Str).cps = #[98] := by decide +kernel
  rw [ea, eb, Array.getElem?_append_left (by decide), Array.getElem?_append_left (by decide)] at h1
  cases h1
theorem enN_nd {β : Type} {f : Nat → Str} (hf : ∀ i j, i < 100 → j < 100 → f i = f j → i = j) : ∀ (xs : List β) (i : Nat), i + xs.length ≤ 100 → ((enN i xs).map fun p => f p.1).Nodup
  | [], _, _ => by simp [enN]
  | x :: xs, i, h => by
    rw [List.length_cons] at h
    rw [enN, List.map_cons, List.nodup_cons]
    refine ⟨fun z => ?_, enN_nd hf xs (i + 1) (by omega)⟩
    obtain ⟨p, hp, e⟩ := List.mem_map.mp z
    have := enN_lt (i + 1) xs p hp
    have := hf p.1 i (by omega) (by omega) e
    omega
theorem nets_joined : nets (joined A B) = (nets A).map (look (nfold A)) ++ (B.2.2.map (·.1)).map (look (ofold A B)) := by
  unfold nets joined
  dsimp only
  rw [List.map_append, List.map_append, List.map_map, List.map_map, List.map_map, List.append_assoc, List.map_map]
  rfl
theorem ord_mono : ∀ {os : List Gt} {b b' : List Str}, (∀ s ∈ b, s ∈ b') → Ord b os → Ord b' os
  | [], _, _, _, _ => trivial
  | g :: os, b, b', h, ⟨h1, h2⟩ => ⟨fun s hs => h s (h1 s hs), ord_mono (fun s hs => by
      rcases List.mem_append.mp hs with hs | hs
      · exact List.mem_append_left _ (h s hs)
      · exact List.mem_append_right _ hs) h2⟩
theorem ord_ren (f : Str → Str) : ∀ {os : List Gt} {b : List Str}, Ord b os → Ord (b.map f) (os.map (ren f))
  | [], _, _ => trivial
  | g :: os, b, ⟨h1, h2⟩ => ⟨fun s hs => by
      obtain ⟨z, hz, rfl⟩ := List.mem_map.mp (show s ∈ g.2.2.map f from hs)
      exact List.mem_map.mpr ⟨z, h1 z hz, rfl⟩, by
      have := ord_ren f h2
      rw [List.map_append] at this
      exact this⟩
theorem ord_app : ∀ {os ps : List Gt} {b : List Str}, Ord b os → Ord (b ++ os.map (·.1)) ps → Ord b (os ++ ps)
  | [], ps, b, _, h => by simpa using h
  | g :: os, ps, b, ⟨h1, h2⟩, h => ⟨h1, ord_app h2 (by rw [List.append_assoc]; exact h)⟩
theorem isL_ren (f : Str → Str) (g : Gt) : isL (ren f g) = isL g := rfl
theorem filter_ren (f : Str → Str) (gs : List Gt) : (gs.map (ren f)).filter isL = (gs.filter isL).map (ren f) := by
  rw [List.filter_map]
  rfl
theorem bases_joined : bases (joined A B) = (bases A).map (look (nfold A)) ++ ((B.2.2.filter isL).map (·.1)).map (look (ofold A B)) := by
  unfold bases joined
  dsimp only
  rw [List.filter_append, filter_ren, filter_ren, List.map_append, List.map_append, List.map_map, List.map_map, List.map_map, List.append_assoc, List.map_map]
  rfl
theorem wf_joined (WA : Wf A) (WB : Wf B) (e : A.2.1.length = B.1.length) (hL : Lg (joined A B).2.2 = false) : Wf (joined A B) := by
  have hA := WA.wk.sz
  have hB := WB.wk.sz
  obtain ⟨nb1, nb2⟩ := nb_map (A := A) WB.nd e.symm
  have hnA := nets_len WA.wk
  have inA : ∀ s ∈ nets A, look (nfold A) s ∈ nets (joined A B) := fun s hs => by
    rw [nets_joined]
    exact List.mem_append_left _ (List.mem_map.mpr ⟨s, hs, rfl⟩)
  have inB : ∀ s ∈ nets B, look (ofold A B) s ∈ nets (joined A B) := fun s hs => by
    rcases List.mem_append.mp hs with hs | hs
    · have : look (ofold A B) s ∈ A.2.1.map (look (nfold A)) := by rw [← nb1]; exact List.mem_map.mpr ⟨s, hs, rfl⟩
      obtain ⟨z, hz, ez⟩ := List.mem_map.mp this
      rw [← ez]
      exact inA z (WA.wk.out z hz)
    · rw [nets_joined]
      exact List.mem_append_right _ (List.mem_map.mpr ⟨s, hs, rfl⟩)
  have hgl : (joined A B).2.2.length ≤ 40 := by
    unfold Lg at hL
    rw [Bool.or_eq_false_iff, decide_eq_false_iff_not] at hL
    omega
  have cs : ∀ g ∈ (joined A B).2.2, (∃ g' ∈ A.2.2, g = ren (look (nfold A)) g') ∨ ∃ g' ∈ B.2.2, g = ren (look (ofold A B)) g' := fun g hg => by
    rcases List.mem_append.mp (show g ∈ A.2.2.map (ren (look (nfold A))) ++ B.2.2.map (ren (look (ofold A B))) from hg) with hg | hg
    · obtain ⟨g', h1, h2⟩ := List.mem_map.mp hg
      exact .inl ⟨g', h1, h2.symm⟩
    · obtain ⟨g', h1, h2⟩ := List.mem_map.mp hg
      exact .inr ⟨g', h1, h2.symm⟩
  refine ⟨⟨fun g hg s hs => ?_, fun s hs => ?_, ⟨?_, by omega, ?_⟩, fun g hg => ?_, fun g hg => ?_⟩, ?_, fun g hg => ?_, ?_⟩
  · rcases cs g hg with ⟨g', h1, rfl⟩ | ⟨g', h1, rfl⟩
    · obtain ⟨z, hz, rfl⟩ := List.mem_map.mp (show s ∈ g'.2.2.map (look (nfold A)) from hs)
      exact inA z (WA.wk.src g' h1 z hz)
    · obtain ⟨z, hz, rfl⟩ := List.mem_map.mp (show s ∈ g'.2.2.map (look (ofold A B)) from hs)
      exact inB z (WB.wk.src g' h1 z hz)
  · obtain ⟨z, hz, rfl⟩ := List.mem_map.mp (show s ∈ B.2.1.map (look (ofold A B)) from hs)
    exact inB z (WB.wk.out z hz)
  · show (A.1.map _).length ≤ 10
    rw [List.length_map]; omega
  · show (B.2.1.map _).length ≤ 10
    rw [List.length_map]; omega
  · rcases cs g hg with ⟨g', h1, rfl⟩ | ⟨g', h1, rfl⟩
    · show (g'.2.2.map _).length ≤ 3
      rw [List.length_map]; exact WA.wk.ar g' h1
    · show (g'.2.2.map _).length ≤ 3
      rw [List.length_map]; exact WB.wk.ar g' h1
  · rcases cs g hg with ⟨g', h1, rfl⟩ | ⟨g', h1, rfl⟩
    · exact WA.wk.kd g' h1
    · exact WB.wk.kd g' h1
  · rw [nets_joined, na_map WA.nd, nb2, List.nodup_append]
    refine ⟨enN_nd (fun i j hi hj h => aS_inj hi hj h) _ _ (by omega), enN_nd (fun i j hi hj h => bS_inj hi hj h) _ _ (by omega), fun x hx y hy => ?_⟩
    obtain ⟨p, _, rfl⟩ := List.mem_map.mp hx
    obtain ⟨q, _, rfl⟩ := List.mem_map.mp hy
    exact ab_ne _ _
  · rcases cs g hg with ⟨g', h1, rfl⟩ | ⟨g', h1, rfl⟩
    · exact ⟨fun h => by show (g'.2.2.map _).length = 3; rw [List.length_map]; exact (WA.gk g' h1).mux h, fun h => by show (g'.2.2.map _).length = 1; rw [List.length_map]; exact (WA.gk g' h1).nt h, fun h => by show (g'.2.2.map _).length = 1; rw [List.length_map]; exact (WA.gk g' h1).la h⟩
    · exact ⟨fun h => by show (g'.2.2.map _).length = 3; rw [List.length_map]; exact (WB.gk g' h1).mux h, fun h => by show (g'.2.2.map _).length = 1; rw [List.length_map]; exact (WB.gk g' h1).nt h, fun h => by show (g'.2.2.map _).length = 1; rw [List.length_map]; exact (WB.gk g' h1).la h⟩
  · obtain ⟨oA, a1, a2, a3⟩ := WA.ord
    obtain ⟨oB, b1, b2, b3⟩ := WB.ord
    refine ⟨oA.map (ren (look (nfold A))) ++ oB.map (ren (look (ofold A B))), fun g => ?_, ?_, ?_⟩
    · show _ ↔ g ∈ A.2.2.map (ren (look (nfold A))) ++ B.2.2.map (ren (look (ofold A B))) ∧ _
      rw [List.mem_append, List.mem_append]
      constructor
      · rintro (h | h)
        · obtain ⟨g', h1, rfl⟩ := List.mem_map.mp h
          exact ⟨.inl (List.mem_map.mpr ⟨g', ((a1 g').mp h1).1, rfl⟩), ((a1 g').mp h1).2⟩
        · obtain ⟨g', h1, rfl⟩ := List.mem_map.mp h
          exact ⟨.inr (List.mem_map.mpr ⟨g', ((b1 g').mp h1).1, rfl⟩), ((b1 g').mp h1).2⟩
      · rintro ⟨h | h, hl⟩
        · obtain ⟨g', h1, rfl⟩ := List.mem_map.mp h
          exact .inl (List.mem_map.mpr ⟨g', (a1 g').mpr ⟨h1, hl⟩, rfl⟩)
        · obtain ⟨g', h1, rfl⟩ := List.mem_map.mp h
          exact .inr (List.mem_map.mpr ⟨g', (b1 g').mpr ⟨h1, hl⟩, rfl⟩)
    · show _ ≤ (A.2.2.map (ren (look (nfold A))) ++ B.2.2.map (ren (look (ofold A B)))).length
      rw [List.length_append, List.length_append, List.length_map, List.length_map, List.length_map, List.length_map]
      omega
    · refine ord_app (ord_mono (fun s hs => ?_) (ord_ren _ a3)) (ord_mono (fun s hs => ?_) (ord_ren _ b3))
      · rw [bases_joined]
        exact List.mem_append_left _ hs
      · rw [bases_joined]
        unfold bases at hs
        rw [List.map_append] at hs
        rcases List.mem_append.mp hs with hs | hs
        · rw [nb1] at hs
          obtain ⟨z, hz, rfl⟩ := List.mem_map.mp hs
          rcases List.mem_append.mp (WA.wk.out z hz) with hz | hz
          · exact List.mem_append_left _ (List.mem_append_left _ (List.mem_map.mpr ⟨z, List.mem_append_left _ hz, rfl⟩))
          · obtain ⟨g, hg, rfl⟩ := List.mem_map.mp hz
            cases hl : isL g with
            | true => exact List.mem_append_left _ (List.mem_append_left _ (List.mem_map.mpr ⟨g.1, List.mem_append_right _ (List.mem_map.mpr ⟨g, List.mem_filter.mpr ⟨hg, hl⟩, rfl⟩), rfl⟩))
            | false =>
              refine List.mem_append_right _ ?_
              rw [List.map_map]
              exact List.mem_map.mpr ⟨g, (a1 g).mpr ⟨hg, hl⟩, rfl⟩
        · exact List.mem_append_left _ (List.mem_append_right _ hs)
end
end G89

/-! numbers and bits; the table of a netlist -/
namespace G89
open PySem L2 Mw
def num : List Int → Int
  | [] => 0
  | b :: bs => b + 2 * num bs
theorem num_app : ∀ (a b : List Int), num (a ++ b) = num a + ((2 ^ a.length : Nat) : Int) * num b
  | [], b => by simp [num]
  | x :: a, b => by
    rw [List.cons_append, num, num, num_app a b, List.length_cons, Nat.pow_succ]
    push_cast
    rw [Int.mul_add, ← Int.mul_assoc, Int.mul_comm ((2 : Int) ^ a.length) 2]
    omega
theorem num_bd : ∀ {a : List Int}, B01 a → 0 ≤ num a ∧ num a < ((2 ^ a.length : Nat) : Int)
  | [], _ => by simp [num]
  | x :: a, h => by
    obtain ⟨h1, h2⟩ := num_bd (a := a) fun y hy => h y (by simp [hy])
    have := h x (by simp)
    rw [num, List.length_cons, Nat.pow_succ]
    push_cast at h2 ⊢
    omega
theorem sum_two {f g : Int → Int} : ∀ {xs : List Int}, (∀ k ∈ xs, f k = 2 * g k) → (xs.map f).sum = 2 * (xs.map g).sum
  | [], _ => rfl
  | x :: xs, h => by
    rw [List.map_cons, List.map_cons, List.sum_cons, List.sum_cons, h x (by simp), sum_two fun k hk => h k (by simp [hk])]
    omega
theorem sum_num : ∀ (e : List Int), ((rgL 0 e.length).map fun k => gx e k * ((2 ^ k.toNat : Nat) : Int)).sum = num e
  | [] => rfl
  | x :: e => by
    rw [List.length_cons, rgL_cons, List.map_cons, List.sum_cons, num]
    have h0 : gx (x :: e) 0 * ((2 ^ (0 : Int).toNat : Nat) : Int) = x := by rw [gx_zero]; simp
    rw [h0, rgL_map_succ, List.map_map, ← sum_num e]
    congr 1
    refine sum_two fun k hk => ?_
    obtain ⟨k0, k1⟩ := mem_rgL.mp hk
    show gx (x :: e) (k + 1) * ((2 ^ (k + 1).toNat : Nat) : Int) = _
    rw [gx_succ _ _ k0, show (k + 1).toNat = k.toNat + 1 by omega, Nat.pow_succ]
    push_cast
    rw [← Int.mul_assoc, Int.mul_comm _ 2]
theorem gx_take {e : List Int} {n : Nat} {k : Int} (h0 : 0 ≤ k) (h1 : k < n) (h : n ≤ e.length) : gx e k = gx (e.take n) k := by
  obtain ⟨k, rfl⟩ := Int.eq_ofNat_of_zero_le h0
  rw [gx_nat (by omega), gx_nat (by rw [List.length_take]; omega), List.getElem_take]
theorem gx_drop {e : List Int} {n : Nat} {k : Int} (h0 : 0 ≤ k) (h1 : (n : Int) + k < e.length) : gx e ((n : Int) + k) = gx (e.drop n) k := by
  obtain ⟨k, rfl⟩ := Int.eq_ofNat_of_zero_le h0
  rw [show (n : Int) + (k : Int) = ((n + k : Nat) : Int) by omega, gx_nat (by omega), gx_nat (by rw [List.length_drop]; omega), List.getElem_drop]
theorem bitsL_01' (n : Int) (c : Nat) : B01 (bitsL n c) := bitsL_01 n c
theorem bitsL_app {a b : Int} {i l : Nat} (ha : 0 ≤ a ∧ a < ((2 ^ i : Nat) : Int)) : bitsL (a + b * ((2 ^ i : Nat) : Int)) (i + l) = bitsL a i ++ bitsL b l := by
  have p0 : (0 : Int) < ((2 ^ i : Nat) : Int) := by have := Nat.pow_pos (n := i) (show 0 < 2 by decide); omega
  unfold bitsL
  rw [List.range_add, List.map_append, List.map_map]
  congr 1
  · apply List.map_congr_left
    intro k hk
    have hk := List.mem_range.mp hk
    obtain ⟨d, hd⟩ : ∃ d, i = k + (d + 1) := ⟨i - k - 1, by omega⟩
    have pk : (0 : Int) < ((2 ^ k : Nat) : Int) := by have := Nat.pow_pos (n := k) (show 0 < 2 by decide); omega
    have e1 : a + b * ((2 ^ i : Nat) : Int) = a + ((2 ^ k : Nat) : Int) * (b * ((2 ^ d : Nat) : Int) * 2) := by
      rw [hd, Nat.pow_add, Nat.pow_succ]
      push_cast
      rw [Int.mul_left_comm b, ← Int.mul_assoc b]
    show (a + b * ((2 ^ i : Nat) : Int)) / ((2 ^ k : Nat) : Int) % 2 = a / ((2 ^ k : Nat) : Int) % 2
    rw [e1, Int.add_mul_ediv_left _ _ (by omega)]
    omega
  · apply List.map_congr_left
    intro k _
    show (a + b * ((2 ^ i : Nat) : Int)) / ((2 ^ (i + k) : Nat) : Int) % 2 = b / ((2 ^ k : Nat) : Int) % 2
    rw [Nat.pow_add]
    push_cast
    rw [← Int.ediv_ediv_of_nonneg (by have := p0; push_cast at this; omega)]
    have e2 : (a + b * (2 : Int) ^ i) / (2 : Int) ^ i = b := by
      have p1 := p0
      push_cast at p1
      rw [Int.add_mul_ediv_right _ _ (by omega), Int.ediv_eq_zero_of_lt ha.1 (by have := ha.2; push_cast at this; omega)]
      omega
    rw [e2]
theorem bitsL_zero (n : Int) : bitsL n 0 = [] := rfl
theorem bitsL_num : ∀ {a : List Int}, B01 a → bitsL (num a) a.length = a
  | [], _ => rfl
  | x :: a, h => by
    have ih := bitsL_num (a := a) fun y hy => h y (by simp [hy])
    have hx := h x (by simp)
    have := bitsL_app (a := x) (b := num a) (i := 1) (l := a.length) (by simp; omega)
    have e1 : num (x :: a) = x + num a * ((2 ^ 1 : Nat) : Int) := by rw [num]; simp; omega
    rw [List.length_cons, Nat.add_comm, e1, this, ih]
    have : bitsL x 1 = [x] := by
      show [x / ((2 ^ 0 : Nat) : Int) % 2] = [x]
      rcases hx with rfl | rfl <;> rfl
    rw [this]; rfl
section
variable {N : Nt}
/-- the answers and the next states -/
def E (N : Nt) (bs : List Int) : List Int := match m_law_ends N bs with | .ok xs => xs | _ => []
def nl (N : Nt) : Nat := nL N.2.2
theorem bases_length (N : Nt) : (bases N).length = N.1.length + nl N := by
  unfold bases nl nL
  rw [List.length_append, List.length_map]
theorem E_ok (W : Wf N) {bs : List Int} (hl : bs.length = N.1.length + nl N) (h01 : B01 bs) : m_law_ends N bs = .ok (E N bs) ∧ (E N bs).length = N.2.1.length + nl N ∧ B01 (E N bs) ∧ ∃ v, Sol N bs v ∧ E N bs = endL N v := by
  obtain ⟨v, S, b, e⟩ := ends_ok W (bs := bs) (by rw [bases_length]; omega) h01
  have eE : E N bs = endL N v := by unfold E; rw [e]
  rw [eE]
  refine ⟨e, ?_, ?_, v, S, rfl⟩
  · unfold endL nl nL
    rw [List.length_append, List.length_map, List.length_map]
  · intro x hx
    unfold endL at hx
    rcases List.mem_append.mp hx with hx | hx
    · obtain ⟨s, hs, rfl⟩ := List.mem_map.mp hx
      exact b s (W.wk.out s hs)
    · obtain ⟨g, hg, rfl⟩ := List.mem_map.mp hx
      obtain ⟨h1, h2⟩ := List.mem_filter.mp hg
      exact b _ (s0_mem W h1 h2)
def eP (N : Nt) (x s : Int) : List Int := E N (bitsL (x + s * ((2 ^ N.1.length : Nat) : Int)) (N.1.length + nl N))
def pF (N : Nt) (x s : Int) : Int × Int := (num ((eP N x s).drop N.2.1.length), num ((eP N x s).take N.2.1.length))
def tab (N : Nt) : Tb := ((N.1.length : Int), (N.2.1.length : Int), (rgL 0 (2 ^ nl N)).map fun s => (rgL 0 (2 ^ N.1.length)).map fun x => pF N x s)
theorem tab_ok (W : Wf N) (h : N.1.length ≤ 6 ∧ nl N ≤ 6) : m_law_net_table N = .ok (tab N) := by
  have hb := lim_big
  have hs := W.wk.sz
  have hg : (N.2.2.filter isL).length = nl N := rfl
  have pi := pow_le h.1
  have pl := pow_le h.2
  unfold m_law_net_table
  rw [Res.bind_ok, lenM_ok, Res.bind_ok, Res.bind_ok, ones_eq (by omega), lenM_ok, List.length_map, hg, Res.bind_ok, Res.bind_ok, lenM_ok, Res.bind_ok, Res.bind_ok, shl1_ok (by omega), rng1_ok (by omega), Res.bind_ok]
  rw [forM_one (h := fun s => (rgL 0 (2 ^ N.1.length)).map fun x => pF N x s) (by rw [rgL_length]; omega) fun s hs' acc => by
    unfold m_law_net_table_b18
    rw [Res.bind_ok, shl1_ok (by omega), rng1_ok (by omega), Res.bind_ok]
    rw [forM_one (h := fun x => pF N x s) (by rw [rgL_length]; omega) fun x hx acc => by
      obtain ⟨e1, e2, e3, _⟩ := E_ok W (bs := bitsL (x + s * ((2 ^ N.1.length : Nat) : Int)) (N.1.length + nl N)) (bitsL_length _ _) (bitsL_01' _ _)
      have eE : eP N x s = E N (bitsL (x + s * ((2 ^ N.1.length : Nat) : Int)) (N.1.length + nl N)) := rfl
      rw [← eE] at e1 e2 e3
      obtain ⟨e, he⟩ : ∃ e, eP N x s = e := ⟨_, rfl⟩
      rw [he] at e1 e2 e3
      unfold m_law_net_table_b16
      rw [shl1_ok (by omega), mul_ok (.inr (by rw [Int.natAbs_natCast]; omega)), addM_ok, addM_ok, show (N.1.length : Int) + (nl N : Int) = ((N.1.length + nl N : Nat) : Int) by push_cast; rfl, pairM_ok, Res.bind_ok]
      dsimp only
      rw [bits_eq _ (by omega), pairM_ok, Res.bind_ok]
      dsimp only
      rw [e1, Res.bind_ok, rng1_ok (by omega), rng1_ok (by omega)]
      have he1 : (e.take N.2.1.length).length = N.2.1.length := by rw [List.length_take]; omega
      have he2 : (e.drop N.2.1.length).length = nl N := by rw [List.length_drop]; omega
      rw [lcB_map (fun k => gx (e.take N.2.1.length) k * ((2 ^ k.toNat : Nat) : Int)) (by rw [rgL_length]; omega) (fun k hk => by
        obtain ⟨k0, k1⟩ := mem_rgL.mp hk
        obtain ⟨j, rfl⟩ := Int.eq_ofNat_of_zero_le k0
        have := e3 (gx e (j : Int)) (gx_mem (by omega) (by omega))
        rw [idxM_gx (by omega) (by omega), shl1_ok (by omega), mul_ok (.inl (by omega)), Int.toNat_natCast, gx_take (n := N.2.1.length) (by omega) (by omega) (by omega)]), sumM_ok, Res.bind_ok]
      rw [lcB_map (fun k => gx (e.drop N.2.1.length) k * ((2 ^ k.toNat : Nat) : Int)) (by rw [rgL_length]; omega) (fun k hk => by
        obtain ⟨k0, k1⟩ := mem_rgL.mp hk
        obtain ⟨j, rfl⟩ := Int.eq_ofNat_of_zero_le k0
        have := e3 (gx e ((N.2.1.length : Int) + (j : Int))) (gx_mem (by omega) (by omega))
        rw [addM_ok, idxM_gx (by omega) (by omega), shl1_ok (by omega), mul_ok (.inl (by omega)), Int.toNat_natCast, gx_drop (by omega) (by omega)]), sumM_ok, pairM_ok]
      have s1 := sum_num (e.take N.2.1.length)
      have s2 := sum_num (e.drop N.2.1.length)
      rw [he1] at s1
      rw [he2] at s2
      rw [s1, s2]
      unfold pF
      rw [he], Res.bind_ok, Res.bind_ok], Res.bind_ok]
  rw [Res.bind_ok, pairM_ok, pairM_ok]
  rfl
end
end G89

/-! the joined netlist's table is the joined table -/
namespace G89
open PySem L2 Mw
section
variable {N A B : Nt}
theorem eP_ok (W : Wf N) (x s : Int) : (eP N x s).length = N.2.1.length + nl N ∧ B01 (eP N x s) := by
  obtain ⟨_, h1, h2, _⟩ := E_ok W (bs := bitsL (x + s * ((2 ^ N.1.length : Nat) : Int)) (N.1.length + nl N)) (bitsL_length _ _) (bitsL_01' _ _)
  exact ⟨h1, h2⟩
theorem wt_tab (W : Wf N) (hi : N.1.length ≤ 6) (ho : N.2.1.length ≤ 6) (hl : nl N ≤ 4) : WT N.1.length N.2.1.length (tab N) := by
  have hr : (tab N).2.2.length = 2 ^ nl N := by unfold tab; dsimp only; rw [List.length_map, rgL_length]
  refine ⟨rfl, rfl, hi, ho, by rw [hr]; exact Nat.pow_pos (by decide), by rw [hr]; exact Nat.pow_le_pow_right (n := 2) (j := 4) (by decide) hl, fun r h => ?_, fun r h p hp => ?_⟩
  · obtain ⟨s, _, rfl⟩ := List.mem_map.mp (show r ∈ (rgL 0 (2 ^ nl N)).map _ from h)
    rw [List.length_map, rgL_length]
  · obtain ⟨s, _, rfl⟩ := List.mem_map.mp (show r ∈ (rgL 0 (2 ^ nl N)).map _ from h)
    obtain ⟨x, _, rfl⟩ := List.mem_map.mp hp
    obtain ⟨e1, e2⟩ := eP_ok W x s
    rw [hr]
    have b1 := num_bd (a := (eP N x s).drop N.2.1.length) fun y hy => e2 y (List.mem_of_mem_drop hy)
    have b2 := num_bd (a := (eP N x s).take N.2.1.length) fun y hy => e2 y (List.mem_of_mem_take hy)
    rw [List.length_drop, e1, Nat.add_sub_cancel_left] at b1
    rw [List.length_take, e1, Nat.min_eq_left (by omega)] at b2
    exact ⟨b1, b2⟩
theorem nl_joined : nl (joined A B) = nl A + nl B := by
  unfold nl nL joined
  dsimp only
  rw [List.filter_append, filter_ren, filter_ren, List.length_append, List.length_map, List.length_map]
theorem s0_ren (f : Str → Str) {g : Gt} (h : g.2.2.length = 1) : s0 (ren f g) = f (s0 g) := by
  unfold s0 ren
  dsimp only
  exact gx_map (by omega) (by omega)
theorem endL_congr {v w : Str → Int} (W : Wf N) (h : ∀ s ∈ nets N, v s = w s) : endL N v = endL N w := by
  unfold endL
  congr 1
  · exact List.map_congr_left fun s hs => h s (W.wk.out s hs)
  · exact List.map_congr_left fun g hg => by
      obtain ⟨h1, h2⟩ := List.mem_filter.mp hg
      exact h _ (s0_mem W h1 h2)
theorem comp (WA : Wf A) (WB : Wf B) (e : A.2.1.length = B.1.length) (hL : Lg (joined A B).2.2 = false) {x s : Int} (t : Int) (hx : 0 ≤ x ∧ x < ((2 ^ A.1.length : Nat) : Int)) (hs : 0 ≤ s ∧ s < ((2 ^ nl A : Nat) : Int)) :
    pF (joined A B) x (s + ((2 ^ nl A : Nat) : Int) * t) = ((pF A x s).1 + ((2 ^ nl A : Nat) : Int) * (pF B (pF A x s).2 t).1, (pF B (pF A x s).2 t).2) := by
  have WJ := wf_joined WA WB e hL
  obtain ⟨nb1, nb2⟩ := nb_map (A := A) WB.nd e.symm
  have hJ1 : (joined A B).1.length = A.1.length := List.length_map ..
  have hJo : (joined A B).2.1.length = B.2.1.length := List.length_map ..
  have hJl := nl_joined (A := A) (B := B)
  -- the bits of all
  have eb : bitsL (x + (s + ((2 ^ nl A : Nat) : Int) * t) * ((2 ^ (joined A B).1.length : Nat) : Int)) ((joined A B).1.length + nl (joined A B)) = (bitsL x A.1.length ++ bitsL s (nl A)) ++ bitsL t (nl B) := by
    rw [hJ1, hJl, bitsL_app hx, Int.mul_comm _ t, bitsL_app hs, List.append_assoc]
  obtain ⟨_, _, jb, v, SJ, ej⟩ := E_ok WJ (bs := bitsL (x + (s + ((2 ^ nl A : Nat) : Int) * t) * ((2 ^ (joined A B).1.length : Nat) : Int)) ((joined A B).1.length + nl (joined A B))) (bitsL_length _ _) (bitsL_01' _ _)
  rw [eb] at SJ
  have hba := SJ.ba
  rw [bases_joined, List.map_append, List.map_map, List.map_map] at hba
  obtain ⟨ba1, ba2⟩ := List.append_inj hba (by rw [List.length_map, bases_length, List.length_append, bitsL_length, bitsL_length])
  -- the first
  have SA : Sol A (bitsL x A.1.length ++ bitsL s (nl A)) (v ∘ look (nfold A)) := ⟨ba1, fun g hg hl => by
    have := SJ.eq (ren (look (nfold A)) g) (List.mem_append_left _ (List.mem_map.mpr ⟨g, hg, rfl⟩)) hl
    have e2 : (ren (look (nfold A)) g).2.2.map v = g.2.2.map (v ∘ look (nfold A)) := List.map_map ..
    rw [e2] at this
    exact this⟩
  obtain ⟨_, la, ab, vA, SA', ea⟩ := E_ok WA (bs := bitsL (x + s * ((2 ^ A.1.length : Nat) : Int)) (A.1.length + nl A)) (bitsL_length _ _) (bitsL_01' _ _)
  rw [bitsL_app hx] at SA'
  rw [endL_congr WA (sol_uniq WA SA' SA)] at ea
  have eA : eP A x s = endL A (v ∘ look (nfold A)) := ea
  -- what it answers
  have tA : (eP A x s).take A.2.1.length = A.2.1.map (v ∘ look (nfold A)) := by
    rw [eA]; unfold endL
    rw [List.take_left' (List.length_map ..)]
  have dA : (eP A x s).drop A.2.1.length = (A.2.2.filter isL).map fun g => (v ∘ look (nfold A)) (s0 g) := by
    rw [eA]; unfold endL
    rw [List.drop_left' (List.length_map ..)]
  obtain ⟨_, b01A⟩ := eP_ok WA x s
  have o01 : B01 (A.2.1.map (v ∘ look (nfold A))) := fun y hy => b01A y (by rw [← tA] at hy; exact List.mem_of_mem_take hy)
  have hmid : (pF A x s).2 = num (A.2.1.map (v ∘ look (nfold A))) := by unfold pF; rw [tA]
  have mb := num_bd o01
  rw [List.length_map, e] at mb
  have bm := bitsL_num o01
  rw [List.length_map, e] at bm
  -- the second
  have SB : Sol B (A.2.1.map (v ∘ look (nfold A)) ++ bitsL t (nl B)) (v ∘ look (ofold A B)) := ⟨by
    have h1 : B.1.map (v ∘ look (ofold A B)) = A.2.1.map (v ∘ look (nfold A)) := by
      rw [← List.map_map, nb1, List.map_map]
    unfold bases
    rw [List.map_append, h1, ba2], fun g hg hl => by
    have := SJ.eq (ren (look (ofold A B)) g) (List.mem_append_right _ (List.mem_map.mpr ⟨g, hg, rfl⟩)) hl
    have e2 : (ren (look (ofold A B)) g).2.2.map v = g.2.2.map (v ∘ look (ofold A B)) := List.map_map ..
    rw [e2] at this
    exact this⟩
  obtain ⟨_, lb, bb, vB, SB', eB'⟩ := E_ok WB (bs := bitsL ((pF A x s).2 + t * ((2 ^ B.1.length : Nat) : Int)) (B.1.length + nl B)) (bitsL_length _ _) (bitsL_01' _ _)
  rw [bitsL_app (by rw [hmid]; exact mb), hmid, bm] at SB'
  rw [endL_congr WB (sol_uniq WB SB' SB)] at eB'
  have eB : eP B (pF A x s).2 t = endL B (v ∘ look (ofold A B)) := eB'
  -- together
  have eJ : eP (joined A B) x (s + ((2 ^ nl A : Nat) : Int) * t) = endL (joined A B) v := ej
  have ends : endL (joined A B) v = B.2.1.map (v ∘ look (ofold A B)) ++ (((A.2.2.filter isL).map fun g => (v ∘ look (nfold A)) (s0 g)) ++ ((B.2.2.filter isL).map fun g => (v ∘ look (ofold A B)) (s0 g))) := by
    unfold endL joined
    dsimp only
    rw [List.filter_append, filter_ren, filter_ren, List.map_append, List.map_map, List.map_map, List.map_map]
    congr 1
    congr 1
    · refine List.map_congr_left fun g hg => ?_
      obtain ⟨h1, h2⟩ := List.mem_filter.mp hg
      show v (s0 (ren _ g)) = _
      rw [s0_ren _ ((WA.gk g h1).la (of_decide_eq_true h2))]
      rfl
    · refine List.map_congr_left fun g hg => ?_
      obtain ⟨h1, h2⟩ := List.mem_filter.mp hg
      show v (s0 (ren _ g)) = _
      rw [s0_ren _ ((WB.gk g h1).la (of_decide_eq_true h2))]
      rfl
  unfold pF
  have tA' : (eP A x s).take A.2.1.length = A.2.1.map (v ∘ look (nfold A)) := tA
  rw [eJ, ends, hJo, List.take_left' (List.length_map ..), List.drop_left' (List.length_map ..), num_app, List.length_map]
  have e3 : num ((eP A x s).take A.2.1.length) = (pF A x s).2 := rfl
  rw [e3, eB]
  unfold endL
  rw [List.take_left' (List.length_map ..), List.drop_left' (List.length_map ..), dA]
  rfl
theorem jt_tab (WA : Wf A) (WB : Wf B) (e : A.2.1.length = B.1.length) (hL : Lg (joined A B).2.2 = false) : jt (tab A) (tab B) = tab (joined A B) := by
  have hJ1 : (joined A B).1.length = A.1.length := List.length_map ..
  have hJo : (joined A B).2.1.length = B.2.1.length := List.length_map ..
  have hJl := nl_joined (A := A) (B := B)
  have hrA : (tab A).2.2.length = 2 ^ nl A := by unfold tab; dsimp only; rw [List.length_map, rgL_length]
  have hrB : (tab B).2.2.length = 2 ^ nl B := by unfold tab; dsimp only; rw [List.length_map, rgL_length]
  have rows : (jt (tab A) (tab B)).2.2 = (tab (joined A B)).2.2 := by
    show (rgL 0 (tab B).2.2.length).flatMap (fun b => (tab A).2.2.map (jrow (tab A).2.2.length (tab B) b)) = (rgL 0 (2 ^ nl (joined A B))).map fun s => (rgL 0 (2 ^ (joined A B).1.length)).map fun x => pF (joined A B) x s
    rw [hrA, hrB, hJ1, hJl, Nat.pow_add, ← fm_one (fun s => (rgL 0 (2 ^ A.1.length)).map fun x => pF (joined A B) x s)]
    have p0 : 0 < 2 ^ nl A := Nat.pow_pos (by decide)
    have key := rg_prod (fun a b => [(rgL 0 (2 ^ A.1.length)).map fun x => pF (joined A B) x (a + ((2 ^ nl A : Nat) : Int) * b)]) (2 ^ nl A) p0 (2 ^ nl B)
    have e1 : (rgL 0 (2 ^ nl A * 2 ^ nl B)).flatMap (fun s => [(rgL 0 (2 ^ A.1.length)).map fun x => pF (joined A B) x (s % ((2 ^ nl A : Nat) : Int) + ((2 ^ nl A : Nat) : Int) * (s / ((2 ^ nl A : Nat) : Int)))]) = (rgL 0 (2 ^ nl A * 2 ^ nl B)).flatMap (fun s => [(rgL 0 (2 ^ A.1.length)).map fun x => pF (joined A B) x s]) := fm_congr fun s _ => by
      rw [Int.emod_add_mul_ediv]
    rw [← e1, key]
    refine fm_congr fun b hb => ?_
    obtain ⟨b0, b1⟩ := mem_rgL.mp hb
    have e2 : (tab A).2.2.map (jrow (2 ^ nl A) (tab B) b) = (rgL 0 (2 ^ nl A)).flatMap fun a => [jrow (2 ^ nl A) (tab B) b ((rgL 0 (2 ^ A.1.length)).map fun x => pF A x a)] := by
      rw [fm_one]
      unfold tab
      dsimp only
      rw [List.map_map]
      rfl
    rw [e2]
    refine fm_congr fun a ha => ?_
    obtain ⟨a0, a1⟩ := mem_rgL.mp ha
    congr 1
    unfold jrow
    rw [List.map_map]
    refine List.map_congr_left fun x hx => ?_
    obtain ⟨x0, x1⟩ := mem_rgL.mp hx
    rw [comp WA WB e hL b ⟨x0, by omega⟩ ⟨a0, by omega⟩]
    have T := eP_ok WA x a
    have hm : 0 ≤ (pF A x a).2 ∧ (pF A x a).2 < ((2 ^ B.1.length : Nat) : Int) := by
      have := num_bd (a := (eP A x a).take A.2.1.length) fun y hy => T.2 y (List.mem_of_mem_take hy)
      have hl : ((eP A x a).take A.2.1.length).length = B.1.length := by rw [List.length_take, T.1, Nat.min_eq_left (by omega), e]
      rw [hl] at this
      exact this
    have ec : cell (tab B) b (pF A x a).2 = pF B (pF A x a).2 b := by
      obtain ⟨bn, rfl⟩ := Int.eq_ofNat_of_zero_le b0
      unfold cell tab
      dsimp only
      rw [gx_map b0 (by rw [rgL_length]; omega), gx_rgL b0 (by omega), gx_map hm.1 (by rw [rgL_length]; exact hm.2), gx_rgL hm.1 hm.2, Int.zero_add, Int.zero_add]
    show ((pF A x a).1 + ((2 ^ nl A : Nat) : Int) * (cell (tab B) b (pF A x a).2).1, (cell (tab B) b (pF A x a).2).2) = _
    rw [ec]
  have h1 : (jt (tab A) (tab B)).1 = (tab (joined A B)).1 := by
    show (A.1.length : Int) = ((joined A B).1.length : Int)
    rw [hJ1]
  have h2 : (jt (tab A) (tab B)).2.1 = (tab (joined A B)).2.1 := by
    show (B.2.1.length : Int) = ((joined A B).2.1.length : Int)
    rw [hJo]
  exact Prod.ext h1 (Prod.ext h2 rows)
theorem walk_ok (WA : Wf A) (WB : Wf B) (hA : A.1.length ≤ 6 ∧ A.2.1.length ≤ 6 ∧ nl A ≤ 4) (hB : B.1.length ≤ 6 ∧ B.2.1.length ≤ 6 ∧ nl B ≤ 4) : m_law_right_netlists A B true = .ok true := by
  refine right_nets WA.wk WB.wk true fun _ e hL => ?_
  have WJ := wf_joined WA WB e hL
  have hJ1 : (joined A B).1.length = A.1.length := List.length_map ..
  have hJl : nl (joined A B) ≤ 4 := by
    unfold Lg at hL
    rw [Bool.or_eq_false_iff, decide_eq_false_iff_not, decide_eq_false_iff_not] at hL
    show nL (joined A B).2.2 ≤ 4
    omega
  rw [tab_ok WJ ⟨by omega, by omega⟩, tab_ok WA ⟨hA.1, by omega⟩, tab_ok WB ⟨hB.1, by omega⟩, pairM_ok, Res.bind_ok]
  dsimp only
  have TA := wt_tab WA hA.1 hA.2.1 hA.2.2
  have TB := wt_tab WB hB.1 hB.2.1 hB.2.2
  rw [← e] at TB
  rw [law_jt_ok TA TB, jt_tab WA WB e hL, eqM_ok, decide_eq_true rfl]
end
end G89

/-! what the law draws -/
namespace G89
open PySem L2 Mw
/-- drawn parts -/
theorem draw {ns : List Int} (hs : ns.length ≤ 1000) {k : Int} (hk : 0 ≤ k ∧ k ≤ 1000000) {sizes : List Int} (hl : sizes.length ≤ 1000) (hz : ∀ x ∈ sizes, 0 < x ∧ x < 1000000) : ∃ ps : List Int, (Res.bind (pairM (Res.bind (pairM (.ok ns) (.ok k)) fun a => m_law_far (a.1) (a.2)) (.ok sizes)) fun a => m_law_parts (a.1) (a.2)) = .ok ps ∧ ps.length = sizes.length ∧ ∀ i : Int, 0 ≤ i ∧ i < sizes.length → 0 ≤ gx ps i ∧ gx ps i < gx sizes i := by
  obtain ⟨x, ex⟩ := far ns hs hk
  obtain ⟨ps, ep, h1, h2⟩ := parts x hl hz
  refine ⟨ps, ?_, h1, h2⟩
  rw [pairM_ok, Res.bind_ok]
  dsimp only
  rw [ex, pairM_ok, Res.bind_ok]
  exact ep
theorem idx_neg {α : Type} {xs : List α} {j : Int} (h0 : 0 ≤ j) (h1 : j < xs.length) : ∃ y ∈ xs, idxM (.ok xs) (subM (negM (.ok (1 : Int))) (.ok j)) = .ok y := by
  have e : subM (negM (.ok (1 : Int))) (.ok j) = .ok (-1 - j) := rfl
  have e2 : ixN xs.length (-1 - j) = some (-1 - j + xs.length).toNat := by
    unfold ixN
    rw [if_neg (by omega), if_pos (by omega)]
  have hlt : (-1 - j + xs.length).toNat < xs.length := by omega
  refine ⟨xs[(-1 - j + xs.length).toNat], List.getElem_mem hlt, ?_⟩
  rw [e, idxM_ok]
  unfold atI
  rw [e2, Option.bind_some, List.getElem?_eq_getElem hlt]
  rfl
theorem drawn_ok {ns : List Int} (hs : ns.length ≤ 1000) {a : Int} (ha : 0 ≤ a ∧ a ≤ 100000) {i o n : Nat} (hi : i ≤ 6) (ho : o ≤ 6) (hn : 0 < n ∧ n ≤ 16) : ∃ t, m_law_drawn ns a (i : Int) (o : Int) (n : Int) = .ok t ∧ WT i o t := by
  have hb := lim_big
  have pi := pow_le hi
  have po := pow_le ho
  have p0 := Nat.pow_pos (n := o) (show 0 < 2 by decide)
  unfold m_law_drawn
  rw [Res.bind_ok, rng1_ok (by omega), Res.bind_ok]
  obtain ⟨rows, e, h1, h2⟩ := forM_rng (f := m_law_drawn_b8 ns a (i : Int) (o : Int) (n : Int)) (fun k (rs : List Row) => rs.length = k ∧ ∀ r ∈ rs, r.length = 2 ^ i ∧ ∀ p ∈ r, (0 ≤ p.1 ∧ p.1 < (n : Int)) ∧ 0 ≤ p.2 ∧ p.2 < ((2 ^ o : Nat) : Int)) (n := n) (s := []) ⟨rfl, fun r hr => by cases hr⟩ 0 fun k rs hk ⟨q1, q2⟩ => by
    have hfl : (List.replicate (2 ^ i) [(64 : Int), 64]).flatten.length = 2 * 2 ^ i := by
      rw [List.length_flatten, List.map_replicate, List.sum_replicate_nat]; simp; omega
    obtain ⟨ps, ep, hl, hr⟩ := draw hs (k := a + (0 + (k : Int))) ⟨by omega, by omega⟩ (sizes := (List.replicate (2 ^ i) [(64 : Int), 64]).flatten) (by omega) (fun x hx => by
      obtain ⟨l, hl, hx⟩ := List.mem_flatten.mp hx
      rw [List.eq_of_mem_replicate hl] at hx
      simp only [List.mem_cons, List.not_mem_nil, or_false, or_self] at hx
      omega)
    unfold m_law_drawn_b8
    rw [addM_ok, consM_ok, consM_ok, shl1_ok (by omega), repC_ok _ (by omega) (by simp; omega), ep, Res.bind_ok, rng1_ok (by omega)]
    rw [lcB_map (fun x => (gx ps (2 * x) % (n : Int), gx ps (2 * x + 1) % ((2 ^ o : Nat) : Int))) (by rw [rgL_length]; omega) (fun x hx => by
      obtain ⟨x0, x1⟩ := mem_rgL.mp hx
      rw [show mulM (.ok (2 : Int)) (.ok x) = .ok (2 * x) from mul_ok (.inl (by decide)), addM_ok, idxM_gx (by omega) (by omega), idxM_gx (by omega) (by omega), Res.bind_ok, Res.bind_ok, mod_ok (by omega), shl1_ok (by omega), mod_ok (by omega), pairM_ok]), Res.bind_ok, Res.bind_ok, appM_ok _ _ _ (by omega)]
    refine ⟨_, rfl, by rw [List.length_append]; simp; omega, fun r hr' => ?_⟩
    rcases List.mem_append.mp hr' with hr' | hr'
    · exact q2 r hr'
    · rw [List.mem_singleton.mp hr']
      refine ⟨by rw [List.length_map, rgL_length], fun p hp => ?_⟩
      obtain ⟨x, _, rfl⟩ := List.mem_map.mp hp
      exact ⟨⟨Int.emod_nonneg _ (by omega), Int.emod_lt_of_pos _ (by omega)⟩, Int.emod_nonneg _ (by omega), Int.emod_lt_of_pos _ (by omega)⟩
  rw [e, Res.bind_ok, Res.bind_ok, pairM_ok, pairM_ok]
  refine ⟨_, rfl, rfl, rfl, hi, ho, by show 0 < rows.length; omega, by show rows.length ≤ 16; omega, fun r hr => (h2 r hr).1, fun r hr p hp => ?_⟩
  obtain ⟨z1, z2⟩ := (h2 r hr).2 p hp
  exact ⟨⟨z1.1, by show p.1 < (rows.length : Int); omega⟩, z2⟩
/-! ### gates -/
def KS : List Str := [("not" : Str), ("and" : Str), ("or" : Str), ("nand" : Str), ("nor" : Str), ("xor" : Str), ("mux" : Str), ("zero" : Str), ("one" : Str)]
def cnt (k : Str) (p1 : Int) : Int := if k = ("mux" : Str) then 3 else if k = ("xor" : Str) then 2 else if k = ("not" : Str) then 1 else if k ∈ [("zero" : Str), ("one" : Str)] then 0 else 2 + p1
theorem j4_ok {name : Str} {ps : List Int} {ns : List Str} {k : Str} (hp : ps.length = 5) : m_law_gate_j4 name ps ns k = m_law_gate_j13 name ps ns k (cnt k (gx ps 1)) := by
  unfold m_law_gate_j4
  dsimp only
  rw [idxM_gx (xs := ps) (i := 1) (by omega) (by omega), addM_ok, Res.bind_ok, consM_ok, consM_ok]
  have e1 : inM (.ok k) (.ok [("zero" : Str), ("one" : Str)]) = .ok (decide (k ∈ [("zero" : Str), ("one" : Str)])) := rfl
  rw [e1, Res.bind_ok, d_if]
  unfold m_law_gate_j7 m_law_gate_j9 m_law_gate_j11
  dsimp only
  simp only [eqM_ok, d_if, Res.bind_ok]
  unfold cnt
  split <;> split <;> split <;> split <;> rfl
theorem ks_facts : ∀ k ∈ KS, PyData.strOk k = true ∧ k ≠ ("latch" : Str) := by decide +kernel
theorem ks_all : [("not" : Str), ("not" : Str), ("and" : Str), ("and" : Str), ("or" : Str), ("or" : Str), ("nand" : Str), ("nand" : Str), ("nor" : Str), ("nor" : Str), ("xor" : Str), ("xor" : Str), ("mux" : Str), ("mux" : Str), ("zero" : Str), ("one" : Str)].all (fun k => decide (k ∈ KS)) = true := by decide +kernel
theorem cnt_facts : cnt ("mux" : Str) 0 = 3 ∧ (∀ p, cnt ("mux" : Str) p = 3) := ⟨by decide +kernel, fun p => by unfold cnt; rw [if_pos rfl]⟩
theorem cnt_not (p : Int) : cnt ("not" : Str) p = 1 := by
  unfold cnt
  rw [if_neg (by decide +kernel), if_neg (by decide +kernel), if_pos rfl]
theorem cnt_zero (p : Int) {k : Str} (h : k ∈ [("zero" : Str), ("one" : Str)]) : cnt k p = 0 := by
  have : ∀ k ∈ [("zero" : Str), ("one" : Str)], k ≠ ("mux" : Str) ∧ k ≠ ("xor" : Str) ∧ k ≠ ("not" : Str) := by decide +kernel
  obtain ⟨h1, h2, h3⟩ := this k h
  unfold cnt
  rw [if_neg h1, if_neg h2, if_neg h3, if_pos h]
theorem cnt_bd (k : Str) {p : Int} (h : 0 ≤ p ∧ p < 2) : 0 ≤ cnt k p ∧ cnt k p ≤ 3 := by
  unfold cnt
  split
  · omega
  · split
    · omega
    · split
      · omega
      · split <;> omega
/-- a gate that isn't a latch, its sources among some nets -/
structure GG (name : Str) (ns : List Str) (g : Gt) : Prop where
  nm : g.1 = name
  gk : GK g
  nl : isL g = false
  ar : g.2.2.length ≤ 3
  kd : PyData.strOk g.2.1 = true
  src : ∀ s ∈ g.2.2, s ∈ ns
theorem gate_draw {name : Str} {ps : List Int} {ns : List Str} (hp : ps.length = 5) (p0 : 0 ≤ gx ps 0 ∧ gx ps 0 < 16) (p1 : 0 ≤ gx ps 1 ∧ gx ps 1 < 2) (hn : ns.length < 1000000) : ∃ g, m_law_gate name ps ns = .ok g ∧ GG name ns g := by
  have hb := lim_big
  have fin : ∀ k ∈ KS, (ns = [] → k ∈ [("zero" : Str), ("one" : Str)]) → ∃ g, m_law_gate_j4 name ps ns k = .ok g ∧ GG name ns g := fun k hk hz => by
    obtain ⟨f1, f2⟩ := ks_facts k hk
    have hc := cnt_bd k p1
    rw [j4_ok hp]
    obtain ⟨c, ec⟩ := Int.eq_ofNat_of_zero_le hc.1
    have mk : ∀ ss : List Str, ss.length = c → (∀ s ∈ ss, s ∈ ns) → GG name ns (name, k, ss) := fun ss hl hs => ⟨rfl, ⟨fun h => by
      have := cnt_facts.2 (gx ps 1)
      rw [show k = ("mux" : Str) from h] at ec
      rw [this] at ec
      show ss.length = 3
      omega, fun h => by
      have := cnt_not (gx ps 1)
      rw [show k = ("not" : Str) from h] at ec
      rw [this] at ec
      show ss.length = 1
      omega, fun h => absurd h f2⟩, decide_eq_false f2, by show ss.length ≤ 3; omega, f1, hs⟩
    unfold m_law_gate_j13
    rw [ec]
    dsimp only
    by_cases h0 : ns = []
    · have := cnt_zero (gx ps 1) (hz h0)
      have c0 : c = 0 := by omega
      subst c0
      exact ⟨(name, k, []), rfl, mk [] rfl (fun s h => by cases h)⟩
    · have hpos : 0 < ns.length := List.length_pos_iff.mpr h0
      rw [rng1_ok (by omega)]
      rw [lcB_map (fun x => gx ns (gx ps (2 + x) % (ns.length : Int))) (by rw [rgL_length]; omega) (fun x hx => by
        obtain ⟨x0, x1⟩ := mem_rgL.mp hx
        rw [addM_ok, idxM_gx (by omega) (by omega), Res.bind_ok, lenM_ok, mod_ok (by omega), idxM_gx (Int.emod_nonneg _ (by omega)) (Int.emod_lt_of_pos _ (by omega))]), Res.bind_ok, pairM_ok, pairM_ok]
      refine ⟨_, rfl, mk _ (by rw [List.length_map, rgL_length]) fun s hs => ?_⟩
      obtain ⟨x, _, rfl⟩ := List.mem_map.mp hs
      exact gx_mem (Int.emod_nonneg _ (by omega)) (Int.emod_lt_of_pos _ (by omega))
  unfold m_law_gate
  simp only [consM_ok]
  rw [Res.bind_ok, catM_ok _ _ (by simp), idxM_gx (xs := ps) (i := 0) (by omega) (by omega), idxM_gx (by omega) (by simp; omega), Res.bind_ok, lenM_ok, eqM_ok, d_if, idxM_gx (xs := ps) (i := 1) (by omega) (by omega)]
  by_cases h0 : (ns.length : Int) = 0
  · rw [if_pos h0, idxM_gx (by omega) (by simp; omega), Res.bind_ok]
    have hm : gx [("zero" : Str), ("one" : Str)] (gx ps 1) ∈ [("zero" : Str), ("one" : Str)] := gx_mem (by omega) (by simp; omega)
    have : ∀ k ∈ [("zero" : Str), ("one" : Str)], k ∈ KS := by decide +kernel
    exact fin _ (this _ hm) fun _ => hm
  · rw [if_neg h0]
    refine fin _ ?_ fun h => absurd (by rw [h]; rfl) h0
    have hm : gx ([("not" : Str), ("not" : Str), ("and" : Str), ("and" : Str), ("or" : Str), ("or" : Str), ("nand" : Str), ("nand" : Str), ("nor" : Str), ("nor" : Str), ("xor" : Str), ("xor" : Str), ("mux" : Str), ("mux" : Str)] ++ [("zero" : Str), ("one" : Str)]) (gx ps 0) ∈ _ := gx_mem p0.1 (by simp; omega)
    have ha := List.all_eq_true.mp ks_all _ hm
    exact of_decide_eq_true ha
end G89

/-! drawn netlists -/
namespace G89
open PySem L2 Mw
def nm (lead : Str) (k : Nat) : Str := lead ++ strI (k : Int)
theorem nm_inj {lead : Str} {i j : Nat} (hi : i < 100) (hj : j < 100) (h : nm lead i = nm lead j) : i = j := strI_inj hi hj (app_inj h)
theorem map_nd {lead : Str} : ∀ {ks : List Nat}, ks.Nodup → (∀ k ∈ ks, k < 100) → (ks.map (nm lead)).Nodup
  | [], _, _ => by simp
  | k :: ks, nd, h => by
    rw [List.nodup_cons] at nd
    rw [List.map_cons, List.nodup_cons]
    refine ⟨fun z => ?_, map_nd nd.2 fun x hx => h x (by simp [hx])⟩
    obtain ⟨x, hx, e⟩ := List.mem_map.mp z
    have := nm_inj (h x (by simp [hx])) (h k (by simp)) e
    exact nd.1 (by rw [← this]; exact hx)
/-- the numbers of the nets -/
def ids (i l g : Nat) : List Nat := List.range i ++ ((List.range l).map (6 + ·) ++ (List.range g).map (10 + ·))
theorem ids_ok {i l g : Nat} (hi : i ≤ 6) (hl : l ≤ 4) (hg : g ≤ 60) : (ids i l g).Nodup ∧ ∀ k ∈ ids i l g, k < 100 := by
  have inj : ∀ (c n : Nat), ((List.range n).map (c + ·)).Nodup := fun c n => by
    have : (List.range n).map (c + ·) = (List.range' c n) := by rw [List.range_eq_range', List.map_add_range']; rfl
    rw [this]; exact List.nodup_range'
  unfold ids
  refine ⟨?_, fun k hk => ?_⟩
  · rw [List.nodup_append, List.nodup_append]
    refine ⟨List.nodup_range, ⟨inj 6 l, inj 10 g, fun a ha b hb e => ?_⟩, fun a ha b hb e => ?_⟩
    · obtain ⟨x, hx, rfl⟩ := List.mem_map.mp ha
      obtain ⟨y, hy, rfl⟩ := List.mem_map.mp hb
      have := List.mem_range.mp hx
      omega
    · have := List.mem_range.mp ha
      rcases List.mem_append.mp hb with hb | hb
      · obtain ⟨y, hy, rfl⟩ := List.mem_map.mp hb
        omega
      · obtain ⟨y, hy, rfl⟩ := List.mem_map.mp hb
        omega
  · rcases List.mem_append.mp hk with hk | hk
    · have := List.mem_range.mp hk; omega
    · rcases List.mem_append.mp hk with hk | hk
      · obtain ⟨y, hy, rfl⟩ := List.mem_map.mp hk
        have := List.mem_range.mp hy; omega
      · obtain ⟨y, hy, rfl⟩ := List.mem_map.mp hk
        have := List.mem_range.mp hy; omega
/-- what is drawn makes a good netlist, whatever the order of its gates -/
theorem wf_make {ins lat outs : List Str} {rows order G : List Gt} (hp : G.Perm (rows ++ order))
    (hr : rows.map (·.1) = lat) (hrl : ∀ g ∈ rows, isL g = true ∧ g.2.2.length = 1 ∧ g.2.1 = ("latch" : Str))
    (nd : (ins ++ (lat ++ order.map (·.1))).Nodup) (og : ∀ g ∈ order, GK g ∧ isL g = false ∧ g.2.2.length ≤ 3 ∧ PyData.strOk g.2.1 = true)
    (oo : Ord (ins ++ lat) order) (src : ∀ g ∈ rows ++ order, ∀ s ∈ g.2.2, s ∈ ins ++ (lat ++ order.map (·.1))) (ou : ∀ s ∈ outs, s ∈ ins ++ (lat ++ order.map (·.1)))
    (hs : ins.length ≤ 10 ∧ (rows ++ order).length ≤ 60 ∧ outs.length ≤ 10) : Wf (ins, outs, G) ∧ nl (ins, outs, G) = rows.length := by
  have hf : (rows ++ order).map (·.1) = lat ++ order.map (·.1) := by rw [List.map_append, hr]
  have hpm : (G.map (·.1)).Perm (lat ++ order.map (·.1)) := by rw [← hf]; exact hp.map _
  have hn : ∀ s, s ∈ nets (ins, outs, G) ↔ s ∈ ins ++ (lat ++ order.map (·.1)) := fun s => by
    unfold nets
    rw [List.mem_append, List.mem_append]
    exact or_congr Iff.rfl (hpm.mem_iff)
  have hlat : PyData.strOk ("latch" : Str) = true := by decide +kernel
  have ls : ∀ (k : Str), k = ("latch" : Str) → k ≠ ("mux" : Str) ∧ k ≠ ("not" : Str) := fun k h => by rw [h]; decide +kernel
  have cs : ∀ g ∈ G, g ∈ rows ∨ g ∈ order := fun g hg => List.mem_append.mp (hp.mem_iff.mp hg)
  have ff : (rows ++ order).filter isL = rows := by
    rw [List.filter_append, List.filter_eq_self.mpr fun g hg => (hrl g hg).1, List.filter_eq_nil_iff.mpr fun g hg => by rw [(og g hg).2.1]; simp, List.append_nil]
  refine ⟨⟨⟨fun g hg s h => (hn s).mpr (src g (hp.mem_iff.mp hg) s h), fun s h => (hn s).mpr (ou s h), ⟨hs.1, by show G.length ≤ 60; rw [hp.length_eq]; exact hs.2.1, hs.2.2⟩, fun g hg => ?_, fun g hg => ?_⟩, ?_, fun g hg => ?_, order, fun g => ?_, ?_, ?_⟩, ?_⟩
  · rcases cs g hg with h | h
    · rw [(hrl g h).2.1]; decide
    · exact (og g h).2.2.1
  · rcases cs g hg with h | h
    · rw [(hrl g h).2.2]; exact hlat
    · exact (og g h).2.2.2
  · have : (nets (ins, outs, G)).Perm (ins ++ (lat ++ order.map (·.1))) := List.Perm.append_left _ hpm
    exact this.nodup_iff.mpr nd
  · rcases cs g hg with h | h
    · obtain ⟨h1, h2, h3⟩ := hrl g h
      obtain ⟨z1, z2⟩ := ls _ h3
      exact ⟨fun z => absurd z z1, fun z => absurd z z2, fun _ => h2⟩
    · exact (og g h).1
  · constructor
    · intro h
      exact ⟨hp.mem_iff.mpr (List.mem_append_right _ h), (og g h).2.1⟩
    · rintro ⟨h1, h2⟩
      rcases cs g h1 with h | h
      · rw [(hrl g h).1] at h2; cases h2
      · exact h
  · show order.length ≤ G.length
    rw [hp.length_eq, List.length_append]; omega
  · refine ord_mono (fun s hs' => ?_) oo
    rcases List.mem_append.mp hs' with h | h
    · exact List.mem_append_left _ h
    · refine List.mem_append_right _ ?_
      rw [← hr] at h
      obtain ⟨g, hg, rfl⟩ := List.mem_map.mp h
      exact List.mem_map.mpr ⟨g, List.mem_filter.mpr ⟨hp.mem_iff.mpr (List.mem_append_left _ hg), (hrl g hg).1⟩, rfl⟩
  · show (G.filter isL).length = _
    rw [(hp.filter _).length_eq, ff]
theorem alpha : ("abcdefghijklmnopqrstuvwxyz" : Str).length = 26 ∧ ∀ j : Nat, j < 26 → atI ("abcdefghijklmnopqrstuvwxyz" : Str).cps.toList (j : Int) = some (97 + j) := by
  refine ⟨by decide +kernel, ?_⟩
  decide +kernel
theorem lead_ok {j : Int} (h0 : 0 ≤ j) (h1 : j < 26) : ∃ lead : Str, ixSM (.ok ("abcdefghijklmnopqrstuvwxyz" : Str)) (.ok j) = .ok lead ∧ lead.length = 1 := by
  have hb := lim_big
  obtain ⟨j, rfl⟩ := Int.eq_ofNat_of_zero_le h0
  refine ⟨⟨#[97 + j]⟩, ?_, rfl⟩
  show (if ("abcdefghijklmnopqrstuvwxyz" : Str).length ≤ lim then (match atI ("abcdefghijklmnopqrstuvwxyz" : Str).cps.toList (j : Int) with | some c => Res.ok (⟨#[c]⟩ : Str) | none => .stuck) else .stuck) = _
  rw [if_pos (by rw [alpha.1]; omega), alpha.2 j (by omega)]
theorem idx_last {α : Type} [Inhabited α] (xs : List α) (y : α) : idxM (.ok (xs ++ [y])) (negM (.ok (1 : Int))) = .ok y := by
  have e : negM (.ok (1 : Int)) = .ok (-1) := rfl
  have e2 : ixN (xs ++ [y]).length (-1) = some xs.length := by
    unfold ixN
    rw [if_neg (by omega), if_pos (by rw [List.length_append]; simp; omega)]
    congr 1
    rw [List.length_append]
    simp
    omega
  rw [e, idxM_ok]
  unfold atI
  rw [e2, Option.bind_some, List.getElem?_append_right (Nat.le_refl _)]
  simp
theorem ord_snoc {b : List Str} {os : List Gt} {g : Gt} (h : Ord b os) (hs : ∀ s ∈ g.2.2, s ∈ b ++ os.map (·.1)) : Ord b (os ++ [g]) := ord_app h ⟨hs, trivial⟩
theorem netlist_ok {ns : List Int} (hns : ns.length ≤ 1000) {a : Int} (ha : 0 ≤ a ∧ a ≤ 1000) {i l g o : Nat} (hi : i ≤ 6) (hl : l ≤ 4) (hg : 0 < g ∧ g ≤ 6) (ho : 0 < o ∧ o ≤ 6) :
    ∃ N, m_law_netlist ns a [(i : Int), (l : Int), (g : Int), (o : Int)] = .ok N ∧ Wf N ∧ N.1.length = i ∧ N.2.1.length = o ∧ nl N = l ∧ N.2.2.length = l + g := by
  have hb := lim_big
  obtain ⟨tl, et, htl, ht⟩ := draw hns (k := a) ⟨by omega, by omega⟩ (sizes := List.replicate 11 60 ++ [41, 2, 26]) (by simp) (fun x hx => by
    simp only [List.mem_append, List.mem_replicate, List.mem_cons, List.not_mem_nil, or_false] at hx
    omega)
  simp only [List.length_append, List.length_replicate, List.length_cons, List.length_nil] at htl ht
  have tb : ∀ k : Int, 0 ≤ k ∧ k < 14 → 0 ≤ gx tl k := fun k hk => (ht k ⟨hk.1, by omega⟩).1
  have t13 : gx tl 13 < 26 := (ht 13 ⟨by omega, by omega⟩).2
  have ti : ∀ k : Int, 0 ≤ k ∧ k < 14 → idxM (.ok tl) (.ok k) = .ok (gx tl k) := fun k hk => idxM_gx hk.1 (by omega)
  obtain ⟨lead, elead, hlead⟩ := lead_ok (tb 13 ⟨by omega, by omega⟩) t13
  have s0 : idxM (.ok [(i : Int), (l : Int), (g : Int), (o : Int)]) (.ok (0 : Int)) = .ok (i : Int) := rfl
  have s1 : idxM (.ok [(i : Int), (l : Int), (g : Int), (o : Int)]) (.ok (1 : Int)) = .ok (l : Int) := rfl
  have s2 : idxM (.ok [(i : Int), (l : Int), (g : Int), (o : Int)]) (.ok (2 : Int)) = .ok (g : Int) := rfl
  have s3 : idxM (.ok [(i : Int), (l : Int), (g : Int), (o : Int)]) (.ok (3 : Int)) = .ok (o : Int) := rfl
  have r11 : repM (.ok [(60 : Int)]) (.ok (11 : Int)) = .ok (List.replicate 11 60) := rep1_ok (n := 11) 60 (by omega)
  unfold m_law_netlist
  rw [consM_ok, r11, consM_ok, consM_ok, consM_ok, catM_ok _ _ (by simp), et, Res.bind_ok, ti 13 ⟨by omega, by omega⟩, elead, Res.bind_ok, s0, s1, s2, rng1_ok (by omega), rng1_ok (by omega), rng1_ok (by omega)]
  -- the names
  have rg : ∀ n : Nat, rgL 0 n = (List.range n).map (fun (k : Nat) => (k : Int)) := fun n => by unfold rgL; exact List.map_congr_left fun k _ => by omega
  rw [lcB_map (fun x => lead ++ strI x) (by rw [rgL_length]; omega) (fun x hx => by
    obtain ⟨x0, x1⟩ := mem_rgL.mp hx
    obtain ⟨k, rfl⟩ := Int.eq_ofNat_of_zero_le x0
    exact num_ok (by omega) (by omega))]
  rw [lcB_map (fun x => lead ++ strI (6 + x)) (by rw [rgL_length]; omega) (fun x hx => by
    obtain ⟨x0, x1⟩ := mem_rgL.mp hx
    obtain ⟨k, rfl⟩ := Int.eq_ofNat_of_zero_le x0
    rw [addM_ok, show (6 : Int) + (k : Int) = ((6 + k : Nat) : Int) by omega]
    exact num_ok (by omega) (by omega)), catM_ok _ _ (by rw [List.length_map, List.length_map, rgL_length, rgL_length]; omega), Res.bind_ok, Res.bind_ok, Res.bind_ok]
  have ein : (rgL 0 i).map (fun x => lead ++ strI x) = (List.range i).map (nm lead) := by rw [rg, List.map_map]; rfl
  have ela : (rgL 0 l).map (fun x => lead ++ strI (6 + x)) = ((List.range l).map (6 + ·)).map (nm lead) := by
    rw [rg, List.map_map, List.map_map]
    exact List.map_congr_left fun k _ => by
      show lead ++ strI (6 + (k : Int)) = lead ++ strI ((6 + k : Nat) : Int)
      rw [Int.natCast_add]; rfl
  rw [ein, ela]
  obtain ⟨idn, idl⟩ := ids_ok hi hl (show g ≤ 60 by omega)
  have ndA := map_nd (lead := lead) idn idl
  unfold ids at ndA
  rw [List.map_append, List.map_append] at ndA
  have li : ((List.range i).map (nm lead)).length = i := by rw [List.length_map, List.length_range]
  have ll : (((List.range l).map (6 + ·)).map (nm lead)).length = l := by rw [List.length_map, List.length_map, List.length_range]
  generalize hin : (List.range i).map (nm lead) = ins at ndA li ⊢
  generalize hla : ((List.range l).map (6 + ·)).map (nm lead) = lat at ndA ll ⊢
  -- the gates
  obtain ⟨⟨order, nets⟩, eo, ho1, ho2, ho3, ho4⟩ := forM_rng (f := m_law_netlist_b30 ns a lead) (fun k (x : List Gt × List Str) => x.1.map (·.1) = ((List.range k).map (10 + ·)).map (nm lead) ∧ x.2 = (ins ++ lat) ++ x.1.map (·.1) ∧ Ord (ins ++ lat) x.1 ∧ ∀ g ∈ x.1, GK g ∧ isL g = false ∧ g.2.2.length ≤ 3 ∧ PyData.strOk g.2.1 = true ∧ ∀ s ∈ g.2.2, s ∈ (ins ++ lat) ++ x.1.map (·.1)) (n := g) (s := ([], ins ++ lat)) ⟨rfl, by simp, trivial, fun g hg => by cases hg⟩ 0 fun k ⟨os, nt⟩ hk ⟨h1, h2, h3, h4⟩ => by
    dsimp only at h1 h2 h3 h4
    obtain ⟨ps, ep, hpl, hpr⟩ := draw hns (k := a + 1 + (0 + (k : Int))) ⟨by omega, by omega⟩ (sizes := [16, 2, 60, 60, 60]) (by simp) (fun x hx => by
      simp only [List.mem_cons, List.not_mem_nil, or_false] at hx
      omega)
    simp only [List.length_cons, List.length_nil] at hpl hpr
    have hol : os.length = k := by
      have := congrArg List.length h1
      simpa using this
    have hnl : nt.length ≤ 100 := by rw [h2, List.length_append, List.length_append, List.length_map]; omega
    have enm : addSM (.ok lead) (strIM (addM (.ok (10 : Int)) (.ok (0 + (k : Int))))) = .ok (nm lead (10 + k)) := by
      rw [addM_ok, show (10 : Int) + (0 + (k : Int)) = ((10 + k : Nat) : Int) by omega]
      exact num_ok (by omega) (by omega)
    obtain ⟨gt, eg, GGg⟩ := gate_draw (name := nm lead (10 + k)) (ns := nt) hpl (hpr 0 ⟨by omega, by omega⟩) (hpr 1 ⟨by omega, by omega⟩) (by omega)
    have hsrc : ∀ s ∈ gt.2.2, s ∈ (ins ++ lat) ++ os.map (·.1) := fun s hs => by rw [← h2]; exact GGg.src s hs
    refine ⟨(os ++ [gt], nt ++ [gt.1]), ?_, ?_, ?_, ord_snoc h3 hsrc, fun g hg => ?_⟩
    · unfold m_law_netlist_b30
      dsimp only
      simp only [consM_ok]
      rw [addM_ok, addM_ok, ep, Res.bind_ok, enm, pairM_ok, pairM_ok, Res.bind_ok]
      dsimp only
      rw [eg, appM_ok _ _ _ (by omega), idx_last, Res.bind_ok, appM_ok _ _ _ (by omega)]
    · dsimp only
      rw [List.map_append, h1, List.range_succ, List.map_append, List.map_append]
      simp only [List.map_cons, List.map_nil]
      rw [GGg.nm]
    · dsimp only
      rw [h2, List.map_append, List.append_assoc]
      rfl
    · dsimp only at hg ⊢
      rw [List.map_append, ← List.append_assoc]
      rcases List.mem_append.mp hg with hg | hg
      · obtain ⟨z1, z2, z3, z4, z5⟩ := h4 g hg
        exact ⟨z1, z2, z3, z4, fun s hs => List.mem_append_left _ (z5 s hs)⟩
      · rw [List.mem_singleton.mp hg]
        exact ⟨GGg.gk, GGg.nl, GGg.ar, GGg.kd, fun s hs => List.mem_append_left _ (hsrc s hs)⟩
  dsimp only at ho1 ho2 ho3 ho4
  have hol : order.length = g := by
    have := congrArg List.length ho1
    simpa using this
  have hnl : nets.length = i + l + g := by rw [ho2, List.length_append, List.length_append, List.length_map]; omega
  rw [← ho1] at ndA
  rw [eo, Res.bind_ok]
  dsimp only
  rw [lenM_ok, addM_ok]
  have emin : min2M (.ok (nets.length : Int)) (.ok ((l : Int) + (g : Int))) = .ok (((l + g : Nat) : Nat) : Int) := by
    show Res.ok (if ((l : Int) + (g : Int)) < (nets.length : Int) then ((l : Int) + (g : Int)) else (nets.length : Int)) = _
    congr 1
    split <;> omega
  rw [emin, Res.bind_ok]
  -- sources by the end
  have negs : ∀ {x : Int}, 0 ≤ x → ∃ y ∈ nets, idxM (.ok nets) (subM (negM (.ok (1 : Int))) (modM (.ok x) (.ok ((l + g : Nat) : Int)))) = .ok y := fun {x} hx => by
    have n0 : 0 ≤ x % ((l + g : Nat) : Int) := Int.emod_nonneg _ (by omega)
    have n1 : x % ((l + g : Nat) : Int) < ((l + g : Nat) : Int) := Int.emod_lt_of_pos _ (by omega)
    rw [mod_ok (by omega)]
    exact idx_neg n0 (by omega)
  obtain ⟨sc, hsc⟩ : ∃ sc : Int → Str, ∀ x, 0 ≤ x → sc x ∈ nets ∧ idxM (.ok nets) (subM (negM (.ok (1 : Int))) (modM (.ok x) (.ok ((l + g : Nat) : Int)))) = .ok (sc x) := by
    refine ⟨fun x => match idxM (.ok nets) (subM (negM (.ok (1 : Int))) (modM (.ok x) (.ok ((l + g : Nat) : Int)))) with | .ok y => y | _ => Str.empty, fun x hx => ?_⟩
    obtain ⟨y, hy, e⟩ := negs hx
    dsimp only
    rw [e]
    exact ⟨hy, rfl⟩
  rw [lcB_map (fun k => (gx lat k, (("latch" : Str), [sc (gx tl k)]))) (by rw [rgL_length]; omega) (fun k hk => by
    obtain ⟨k0, k1⟩ := mem_rgL.mp hk
    obtain ⟨k, rfl⟩ := Int.eq_ofNat_of_zero_le k0
    have e1 : idxM (.ok nets) (addM (.ok (i : Int)) (.ok (k : Int))) = .ok (gx lat (k : Int)) := by
      rw [addM_ok, show (i : Int) + (k : Int) = ((i + k : Nat) : Int) by omega, idxM_gx (by omega) (by omega)]
      congr 1
      rw [gx_nat (by omega), gx_nat (by omega)]
      simp only [ho2]
      rw [List.getElem_append_left (by rw [List.length_append]; omega), List.getElem_append_right (by omega)]
      congr 1
      omega
    rw [e1, ti (k : Int) ⟨by omega, by omega⟩, Res.bind_ok, (hsc _ (tb (k : Int) ⟨by omega, by omega⟩)).2, consM_ok, pairM_ok, pairM_ok])]
  have hrows : ((rgL 0 l).map fun k => (gx lat k, (("latch" : Str), [sc (gx tl k)]))).map (·.1) = lat := by
    rw [List.map_map]
    apply List.ext_getElem (by rw [List.length_map, rgL_length]; omega)
    intro n h1 h2
    simp only [rgL, List.map_map, List.getElem_map, List.getElem_range, Function.comp]
    rw [Int.zero_add, gx_nat h2]
  have hrl : ∀ g ∈ (rgL 0 l).map (fun k => (gx lat k, (("latch" : Str), [sc (gx tl k)]))), (isL g = true ∧ g.2.2.length = 1 ∧ g.2.1 = ("latch" : Str)) ∧ ∀ s ∈ g.2.2, s ∈ nets := fun g hg => by
    obtain ⟨k, hk, rfl⟩ := List.mem_map.mp hg
    obtain ⟨k0, k1⟩ := mem_rgL.mp hk
    refine ⟨⟨decide_eq_true rfl, rfl, rfl⟩, fun s hs => ?_⟩
    rw [List.mem_singleton.mp (show s ∈ [sc (gx tl k)] from hs)]
    exact (hsc _ (tb k ⟨by omega, by omega⟩)).1
  have hrlen : ((rgL 0 l).map fun k => (gx lat k, (("latch" : Str), [sc (gx tl k)]))).length = l := by rw [List.length_map, rgL_length]
  generalize (rgL 0 l).map (fun k => (gx lat k, (("latch" : Str), [sc (gx tl k)]))) = rows at hrows hrl hrlen
  rw [catM_ok _ _ (by omega), Res.bind_ok, ti 11 ⟨by omega, by omega⟩, Res.bind_ok, lenM_ok, mod_ok (by rw [List.length_append]; omega), Res.bind_ok]
  have n0 : 0 ≤ gx tl 11 % ((rows ++ order).length : Int) := Int.emod_nonneg _ (by rw [List.length_append]; omega)
  have n1 : gx tl 11 % ((rows ++ order).length : Int) < ((rows ++ order).length : Int) := Int.emod_lt_of_pos _ (by rw [List.length_append]; omega)
  obtain ⟨turn, eturn⟩ := Int.eq_ofNat_of_zero_le n0
  rw [eturn] at n1 ⊢
  rw [someM_ok, sliceM_ok, sliceM_ok]
  have c1 : cutL (rows ++ order) (some (turn : Int)) none = (rows ++ order).drop turn := by
    unfold cutL
    rw [HT.sIx_nat, HT.sIx_none, Nat.min_eq_left (by omega), List.take_of_length_le (by rw [List.length_drop]; omega)]
  have c2 : cutL (rows ++ order) none (some (turn : Int)) = (rows ++ order).take turn := by
    unfold cutL
    rw [HT.sIx_nat, HT.sIx_none, List.drop_zero, Nat.sub_zero, Nat.min_eq_left (by omega)]
  have hrl2 : (rows ++ order).length = l + g := by rw [List.length_append]; omega
  rw [c1, c2, catM_ok _ _ (by rw [List.length_drop, List.length_take]; omega), Res.bind_ok, ti 12 ⟨by omega, by omega⟩, eqM_ok, d_if]
  have pm : ((rows ++ order).drop turn ++ (rows ++ order).take turn).Perm (rows ++ order) := by
    refine List.perm_append_comm.trans ?_
    rw [List.take_append_drop]
  -- the outputs
  have netsE : nets = ins ++ (lat ++ order.map (·.1)) := by rw [ho2, List.append_assoc]
  have fin : ∀ (G : List Gt), G.Perm (rows ++ order) → ∃ N, m_law_netlist_j20 [(i : Int), (l : Int), (g : Int), (o : Int)] tl nets ((l + g : Nat) : Int) G = .ok N ∧ Wf N ∧ N.1.length = i ∧ N.2.1.length = o ∧ nl N = l ∧ N.2.2.length = l + g := fun G hG => by
    have j24 : ∀ outs : List Str, outs.length = o → (∀ s ∈ outs, s ∈ nets) → ∃ N, m_law_netlist_j24 [(i : Int), (l : Int), (g : Int), (o : Int)] nets G outs = .ok N ∧ Wf N ∧ N.1.length = i ∧ N.2.1.length = o ∧ nl N = l ∧ N.2.2.length = l + g := fun outs hol' hos => by
      have hcut : cutL nets none (some (i : Int)) = ins := by
        unfold cutL
        rw [HT.sIx_nat, HT.sIx_none, List.drop_zero, Nat.sub_zero, Nat.min_eq_left (by omega), netsE, List.take_left' li]
      obtain ⟨w1, w2⟩ := wf_make (outs := outs) hG hrows (fun g hg => (hrl g hg).1) ndA (fun g hg => by
        obtain ⟨z1, z2, z3, z4, _⟩ := ho4 g hg
        exact ⟨z1, z2, z3, z4⟩) ho3 (fun g hg s hs => by
        rw [← netsE]
        rcases List.mem_append.mp hg with hg | hg
        · exact (hrl g hg).2 s hs
        · rw [ho2]; exact (ho4 g hg).2.2.2.2 s hs) (fun s hs => by rw [← netsE]; exact hos s hs) ⟨by omega, by omega, by omega⟩
      refine ⟨(ins, outs, G), ?_, w1, li, hol', by rw [w2]; omega, by show G.length = _; rw [hG.length_eq]; exact hrl2⟩
      unfold m_law_netlist_j24
      dsimp only
      rw [s0, someM_ok, sliceM_ok, hcut]
      rfl
    unfold m_law_netlist_j20
    dsimp only
    rw [s3, rng1_ok (by omega)]
    rw [lcB_map (fun k => sc (gx tl (4 + k))) (by rw [rgL_length]; omega) (fun k hk => by
      obtain ⟨k0, k1⟩ := mem_rgL.mp hk
      rw [addM_ok, ti (4 + k) ⟨by omega, by omega⟩, Res.bind_ok]
      exact (hsc _ (tb (4 + k) ⟨by omega, by omega⟩)).2), Res.bind_ok, ti 10 ⟨by omega, by omega⟩, ltM_ok, d_if]
    have hos : ∀ s ∈ (rgL 0 o).map (fun k => sc (gx tl (4 + k))), s ∈ nets := fun s hs => by
      obtain ⟨k, hk, rfl⟩ := List.mem_map.mp hs
      obtain ⟨k0, k1⟩ := mem_rgL.mp hk
      exact (hsc _ (tb (4 + k) ⟨by omega, by omega⟩)).1
    have hol2 : ((rgL 0 o).map fun k => sc (gx tl (4 + k))).length = o := by rw [List.length_map, rgL_length]
    split
    · have m0 : 0 ≤ gx tl 10 % (nets.length : Int) := Int.emod_nonneg _ (by omega)
      have m1 : gx tl 10 % (nets.length : Int) < (nets.length : Int) := Int.emod_lt_of_pos _ (by omega)
      rw [Res.bind_ok, lenM_ok, mod_ok (by omega), idxM_gx m0 m1, setM_ok (by omega) (by omega)]
      refine j24 _ (by rw [List.length_set]; exact hol2) fun s hs => ?_
      rcases List.mem_or_eq_of_mem_set hs with hs | hs
      · exact hos s hs
      · rw [hs]; exact gx_mem m0 m1
    · exact j24 _ hol2 hos
  split
  · rw [Res.bind_ok]
    exact fin _ ((List.reverse_perm _).trans pm)
  · exact fin _ pm
end G89

/-! padding, and the law -/
namespace G89
open PySem L2 Mw
theorem len_pad : ("pad" : Str).length = 3 ∧ PyData.strOk ("not" : Str) = true := by decide +kernel
theorem pad_ok {N : Nt} (W : Wk N) (ho : 0 < N.2.1.length) (hg : N.2.2.length ≤ 10) {c : Nat} (hc : c ≤ 45) : ∃ P, m_law_padded N (c : Int) = .ok P ∧ Wk P := by
  have hb := lim_big
  have hs := W.sz
  unfold m_law_padded
  rw [Res.bind_ok, Res.bind_ok, Res.bind_ok, Res.bind_ok, idxM_gx (xs := N.2.1) (i := 0) (by omega) (by omega), Res.bind_ok, rng1_ok (by omega), Res.bind_ok]
  obtain ⟨⟨gs, nt⟩, e, h1, h2, h3, h4, h5⟩ := forM_rng (f := m_law_padded_b7) (fun k (x : List Gt × Str) => x.1.length = N.2.2.length + k ∧ (∀ s ∈ nets N, s ∈ N.1 ++ x.1.map (·.1)) ∧ x.2 ∈ N.1 ++ x.1.map (·.1) ∧ (∀ g ∈ x.1, ∀ s ∈ g.2.2, s ∈ N.1 ++ x.1.map (·.1)) ∧ ∀ g ∈ x.1, g.2.2.length ≤ 3 ∧ PyData.strOk g.2.1 = true) (n := c) (s := (N.2.2, gx N.2.1 0)) ⟨rfl, fun s h => h, W.out _ (gx_mem (by omega) (by omega)), W.src, fun g hg => ⟨W.ar g hg, W.kd g hg⟩⟩ 0 fun k ⟨gs, nt⟩ hk ⟨h1, h2, h3, h4, h5⟩ => by
    dsimp only at h1 h2 h3 h4 h5
    have en : addSM (.ok ("pad" : Str)) (strIM (.ok (0 + (k : Int)))) = .ok (("pad" : Str) ++ strI k) := by
      rw [Int.zero_add]
      exact num_ok (by rw [len_pad.1]; decide) (by omega)
    have up : ∀ s ∈ N.1 ++ gs.map (·.1), s ∈ N.1 ++ (gs ++ [((("pad" : Str) ++ strI (k : Int)), ("not" : Str), [nt])]).map (·.1) := fun s h => by
      rw [List.map_append, ← List.append_assoc]
      exact List.mem_append_left _ h
    refine ⟨(gs ++ [((("pad" : Str) ++ strI (k : Int)), ("not" : Str), [nt])], ("pad" : Str) ++ strI (k : Int)), ?_, ?_, fun s h => up s (h2 s h), ?_, fun g hg s hs' => ?_, fun g hg => ?_⟩
    · unfold m_law_padded_b7
      dsimp only
      rw [en, consM_ok, pairM_ok, pairM_ok, appM_ok _ _ _ (by omega), Res.bind_ok]
    · dsimp only
      rw [List.length_append, h1]; rfl
    · dsimp only
      rw [List.map_append]
      exact List.mem_append_right _ (List.mem_append_right _ (by simp))
    · rcases List.mem_append.mp hg with hg | hg
      · exact up s (h4 g hg s hs')
      · rw [List.mem_singleton.mp hg] at hs'
        rw [List.mem_singleton.mp (show s ∈ [nt] from hs')]
        exact up _ h3
    · rcases List.mem_append.mp hg with hg | hg
      · exact h5 g hg
      · rw [List.mem_singleton.mp hg]
        exact ⟨show ([nt] : List Str).length ≤ 3 from by simp, len_pad.2⟩
  dsimp only at h1 h2 h3 h4 h5
  have hcut : cutL N.2.1 (some (1 : Int)) none = N.2.1.drop 1 := by
    unfold cutL
    rw [show (1 : Int) = ((1 : Nat) : Int) from rfl, HT.sIx_nat, HT.sIx_none, Nat.min_eq_left (by omega), List.take_of_length_le (by rw [List.length_drop]; omega)]
  rw [e, Res.bind_ok]
  dsimp only
  rw [consM_ok, someM_ok, sliceM_ok, hcut, catM_ok _ _ (by rw [List.length_drop]; simp; omega), Res.bind_ok, Res.bind_ok, pairM_ok, pairM_ok]
  refine ⟨(N.1, [nt] ++ N.2.1.drop 1, gs), rfl, h4, fun s hs' => ?_, ⟨hs.1, by show gs.length ≤ 60; omega, ?_⟩, fun g hg => (h5 g hg).1, fun g hg => (h5 g hg).2⟩
  · rcases List.mem_append.mp (show s ∈ [nt] ++ N.2.1.drop 1 from hs') with h | h
    · rw [List.mem_singleton.mp h]; exact h3
    · exact h2 s (W.out s (List.mem_of_mem_drop h))
  · show ([nt] ++ N.2.1.drop 1).length ≤ 10
    rw [List.length_append, List.length_drop]; simp; omega
theorem law_true (ns : List Int) (hl : ns.length ≤ 63) : m_law ns = .ok true := by
  have hb := lim_big
  unfold m_law
  simp only [consM_ok]
  obtain ⟨hd, e1, l1, r1⟩ := draw (ns := ns) (by omega) (k := 20) ⟨by omega, by omega⟩ (sizes := [3, 4, 3, 3, 8, 4, 3, 3, 4, 4, 3]) (by simp) (fun x hx => by
    simp only [List.mem_cons, List.not_mem_nil, or_false] at hx
    omega)
  obtain ⟨mo, e2, l2, r2⟩ := draw (ns := ns) (by omega) (k := 21) ⟨by omega, by omega⟩ (sizes := [7, 3, 4, 6, 3, 40]) (by simp) (fun x hx => by
    simp only [List.mem_cons, List.not_mem_nil, or_false] at hx
    omega)
  simp only [List.length_cons, List.length_nil] at l1 r1 l2 r2
  have hi : ∀ k : Int, 0 ≤ k ∧ k < 11 → idxM (.ok hd) (.ok k) = .ok (gx hd k) := fun k hk => idxM_gx hk.1 (by omega)
  have mi : ∀ k : Int, 0 ≤ k ∧ k < 6 → idxM (.ok mo) (.ok k) = .ok (gx mo k) := fun k hk => idxM_gx hk.1 (by omega)
  have b0 : 0 ≤ gx hd 0 ∧ gx hd 0 < 3 := r1 0 ⟨by omega, by omega⟩
  have b1 : 0 ≤ gx hd 1 ∧ gx hd 1 < 4 := r1 1 ⟨by omega, by omega⟩
  have b2 : 0 ≤ gx hd 2 ∧ gx hd 2 < 3 := r1 2 ⟨by omega, by omega⟩
  have b3 : 0 ≤ gx hd 3 ∧ gx hd 3 < 3 := r1 3 ⟨by omega, by omega⟩
  have b5 : 0 ≤ gx hd 5 ∧ gx hd 5 < 4 := r1 5 ⟨by omega, by omega⟩
  have b6 : 0 ≤ gx hd 6 ∧ gx hd 6 < 3 := r1 6 ⟨by omega, by omega⟩
  have b7 : 0 ≤ gx hd 7 ∧ gx hd 7 < 3 := r1 7 ⟨by omega, by omega⟩
  have b9 : 0 ≤ gx hd 9 ∧ gx hd 9 < 4 := r1 9 ⟨by omega, by omega⟩
  have m0 : 0 ≤ gx mo 0 ∧ gx mo 0 < 7 := r2 0 ⟨by omega, by omega⟩
  have m1 : 0 ≤ gx mo 1 ∧ gx mo 1 < 3 := r2 1 ⟨by omega, by omega⟩
  have m2 : 0 ≤ gx mo 2 ∧ gx mo 2 < 4 := r2 2 ⟨by omega, by omega⟩
  have m3 : 0 ≤ gx mo 3 ∧ gx mo 3 < 6 := r2 3 ⟨by omega, by omega⟩
  have m4 : 0 ≤ gx mo 4 ∧ gx mo 4 < 3 := r2 4 ⟨by omega, by omega⟩
  have m5 : 0 ≤ gx mo 5 ∧ gx mo 5 < 40 := r2 5 ⟨by omega, by omega⟩
  rw [e1, Res.bind_ok, e2, Res.bind_ok, hi 0 ⟨by omega, by omega⟩, hi 1 ⟨by omega, by omega⟩, hi 2 ⟨by omega, by omega⟩, hi 3 ⟨by omega, by omega⟩, hi 4 ⟨by omega, by omega⟩, hi 5 ⟨by omega, by omega⟩, hi 6 ⟨by omega, by omega⟩, hi 7 ⟨by omega, by omega⟩, hi 8 ⟨by omega, by omega⟩, hi 9 ⟨by omega, by omega⟩]
  obtain ⟨n0, h0⟩ := Int.eq_ofNat_of_zero_le b0.1
  obtain ⟨n1, h1⟩ := Int.eq_ofNat_of_zero_le b1.1
  obtain ⟨n2, h2⟩ := Int.eq_ofNat_of_zero_le (show 0 ≤ 1 + gx hd 2 by omega)
  obtain ⟨n3, h3⟩ := Int.eq_ofNat_of_zero_le (show 0 ≤ 1 + gx hd 3 by omega)
  obtain ⟨n5, h5⟩ := Int.eq_ofNat_of_zero_le b5.1
  obtain ⟨n6, h6⟩ := Int.eq_ofNat_of_zero_le (show 0 ≤ 1 + gx hd 6 by omega)
  obtain ⟨n7, h7⟩ := Int.eq_ofNat_of_zero_le (show 0 ≤ 1 + gx hd 7 by omega)
  simp only [addM_ok, consM_ok]
  rw [eqM_ok, b2iM_ok]
  obtain ⟨ni, hni⟩ : ∃ ni : Nat, (1 + gx hd 3) + (if decide (gx hd 4 = 0) = true then 1 else 0) = (ni : Int) ∧ ni ≤ 4 := by
    refine ⟨(1 + gx hd 3 + (if decide (gx hd 4 = 0) = true then 1 else 0)).toNat, ?_, ?_⟩ <;> split <;> omega
  rw [h0, h1, h2, h3]
  obtain ⟨A, eA, WA, a1, a2, a3, a4⟩ := netlist_ok (ns := ns) (by omega) (a := 0) ⟨by omega, by omega⟩ (i := n0) (l := n1) (g := n2) (o := n3) (by omega) (by omega) ⟨by omega, by omega⟩ ⟨by omega, by omega⟩
  rw [pairM_ok, pairM_ok, Res.bind_ok]
  dsimp only
  rw [eA, Res.bind_ok]
  rw [h3] at hni
  rw [addM_ok, hni.1, Res.bind_ok, h5, h6, h7]
  obtain ⟨B, eB, WB, c1, c2, c3, c4⟩ := netlist_ok (ns := ns) (by omega) (a := 5) ⟨by omega, by omega⟩ (i := ni) (l := n5) (g := n6) (o := n7) (by omega) (by omega) ⟨by omega, by omega⟩ ⟨by omega, by omega⟩
  rw [pairM_ok, pairM_ok, Res.bind_ok]
  dsimp only
  rw [eB, Res.bind_ok]
  -- what comes last
  have last : m_law_j7 ns hd mo A B () = .ok true := by
    unfold m_law_j7
    rw [hi 10 ⟨by omega, by omega⟩, neM_ok, bif_eq]
    split
    · rw [Res.bind_ok, Res.bind_ok, tab_ok WA ⟨by omega, by omega⟩, tab_ok WB ⟨by omega, by omega⟩, pairM_ok, Res.bind_ok]
      exact right_t (wt_tab WA (by omega) (by omega) (by omega)) (wt_tab WB (by omega) (by omega) (by omega))
    · obtain ⟨k0, z0⟩ := Int.eq_ofNat_of_zero_le m0.1
      obtain ⟨k1, z1⟩ := Int.eq_ofNat_of_zero_le (show 0 ≤ 1 + gx mo 1 by omega)
      obtain ⟨k2, z2⟩ := Int.eq_ofNat_of_zero_le (show 0 ≤ 3 + gx mo 2 by omega)
      obtain ⟨k3, z3⟩ := Int.eq_ofNat_of_zero_le (show 0 ≤ 3 + gx mo 3 by omega)
      obtain ⟨k4, z4⟩ := Int.eq_ofNat_of_zero_le (show 0 ≤ 1 + gx mo 4 by omega)
      obtain ⟨kx, zx⟩ : ∃ kx : Nat, (1 + gx mo 1) + (if decide (gx hd 4 = 0) = true then 1 else 0) = (kx : Int) ∧ kx ≤ 4 := by
        refine ⟨(1 + gx mo 1 + (if decide (gx hd 4 = 0) = true then 1 else 0)).toNat, ?_, ?_⟩ <;> split <;> omega
      obtain ⟨t, et, T⟩ := drawn_ok (ns := ns) (by omega) (a := 0) ⟨by omega, by omega⟩ (i := k0) (o := k1) (n := k2) (by omega) (by omega) ⟨by omega, by omega⟩
      obtain ⟨u, eu, U⟩ := drawn_ok (ns := ns) (by omega) (a := 8) ⟨by omega, by omega⟩ (i := kx) (o := k4) (n := k3) (by omega) (by omega) ⟨by omega, by omega⟩
      rw [mi 0 ⟨by omega, by omega⟩, mi 1 ⟨by omega, by omega⟩, mi 2 ⟨by omega, by omega⟩, mi 3 ⟨by omega, by omega⟩, mi 4 ⟨by omega, by omega⟩, hi 4 ⟨by omega, by omega⟩, eqM_ok, b2iM_ok, addM_ok, addM_ok, addM_ok, addM_ok, addM_ok, z0, z2, z3, z4, zx.1, z1]
      simp only [pairM_ok]
      rw [Res.bind_ok]
      dsimp only
      rw [et, Res.bind_ok, Res.bind_ok]
      dsimp only
      rw [eu, pairM_ok, Res.bind_ok]
      exact right_t T U
  rw [eqM_ok, bif_eq]
  split
  · rw [Res.bind_ok, Res.bind_ok, lenM_ok, lenM_ok, subM_ok, subM_ok, Res.bind_ok, mi 5 ⟨by omega, by omega⟩, subM_ok, subM_ok]
    have q1 : A.2.2.length ≤ 6 := by omega
    have q2 : B.2.2.length ≤ 6 := by omega
    generalize hcount : 39 + gx hd 9 - (A.2.2.length : Int) - (B.2.2.length : Int) = count
    have e3 : min3M (.ok count) (.ok (gx mo 5)) (.ok (40 - (A.2.2.length : Int))) = .ok (mn2 (mn2 count (gx mo 5)) (40 - (A.2.2.length : Int))) := rfl
    rw [e3, Res.bind_ok]
    have p0 : 0 ≤ mn2 (mn2 count (gx mo 5)) (40 - (A.2.2.length : Int)) ∧ mn2 (mn2 count (gx mo 5)) (40 - (A.2.2.length : Int)) ≤ count := by
      unfold mn2
      split <;> split <;> omega
    generalize mn2 (mn2 count (gx mo 5)) (40 - (A.2.2.length : Int)) = part at p0
    have e4 : min2M (subM (.ok count) (.ok part)) (.ok (40 - (B.2.2.length : Int))) = .ok (if 40 - (B.2.2.length : Int) < count - part then 40 - (B.2.2.length : Int) else count - part) := rfl
    rw [e4, Res.bind_ok]
    have p1 : 0 ≤ (if 40 - (B.2.2.length : Int) < count - part then 40 - (B.2.2.length : Int) else count - part) ∧ (if 40 - (B.2.2.length : Int) < count - part then 40 - (B.2.2.length : Int) else count - part) ≤ count := by
      split <;> omega
    generalize (if 40 - (B.2.2.length : Int) < count - part then 40 - (B.2.2.length : Int) else count - part) = rest at p1
    obtain ⟨x1, y1⟩ := Int.eq_ofNat_of_zero_le (show 0 ≤ count - rest by omega)
    obtain ⟨x2, y2⟩ := Int.eq_ofNat_of_zero_le p1.1
    obtain ⟨P, eP, WP⟩ := pad_ok WA.wk (by omega) (by omega) (c := x1) (by omega)
    obtain ⟨Q, eQ, WQ⟩ := pad_ok WB.wk (by omega) (by omega) (c := x2) (by omega)
    rw [subM_ok, y1, y2, pairM_ok, Res.bind_ok, pairM_ok, Res.bind_ok]
    dsimp only
    rw [eP, eQ, pairM_ok, pairM_ok, Res.bind_ok]
    dsimp only
    rw [right_nets WP WQ false (fun h => by cases h), notM_ok, bif_eq, if_neg (by simp)]
    exact last
  · rw [pairM_ok, pairM_ok, Res.bind_ok]
    dsimp only
    rw [walk_ok WA WB ⟨by omega, by omega, by omega⟩ ⟨by omega, by omega, by omega⟩, notM_ok, bif_eq, if_neg (by simp)]
    exact last
end G89

namespace G89
open PySem PySem.Spec PyProof.Rows L2 Mw
def spLaw (K : PySem.W.Frag) : Sp := fun vs H Q _ => ∃ (a : Addr) (ns : List Int), vs = [.ref a] ∧ SqL K H a (ns.map V.int) ∧ ns.length ≤ 63 ∧ ∀ H', Q (.bl true) H'
theorem paired_ints : ∀ {K : PySem.W.Frag} {G : Hp} (ns : List Int), RLs zI K G (ns.map V.int) ns
  | _, _, [] => .nil
  | _, _, _ :: ns => .cons rfl (paired_ints ns)
theorem spLaw_imp {K : PySem.W.Frag} {cl : Nat → Addr} (vs : List V) (H : Hp) (Q : VK) (E : XK) (h : spLaw K vs H Q E) : spP K cl (rs1 (rL zI)) rB (fun a => m_law a) vs H Q E := by
  obtain ⟨a, ns, rfl, hS, hl, k⟩ := h
  refine ⟨H, ns, Same.refl _, ⟨_, rfl, a, _, rfl, hS, paired_ints ns⟩, .mk ?_⟩
  show (m_law ns).wp _ _
  rw [law_true ns hl]
  exact fun v G' H' st r => by cases (show v = V.bl true from r); exact k H'
theorem all_mk {P : Program} {w : World} {K : PySem.W.Frag} {h : Heap} {mg : Str → Option Value} {fa : Addr} (X : K.In h) (G : h.Ns mainGlobals mg) (hfa : mg "law" = some (.ref fa))
    {f_numbered_names f_renamed f_renamed_gates f_second_names f_letter_count f_state_count f_step f_check_gates f_join_netlists f_join_tables f_law_far f_law_parts f_law_is_integer f_law_bits f_law_gate f_law_netlist f_law_gate_value f_law_ends f_law_net_table f_law_same_netlist f_law_same_table f_law_joined_tables f_law_drawn f_law_padded f_law_renamed f_law_joined f_law_refused f_law_right_netlists f_law_right_tables f_law : Addr}
    {od_numbered_names an_numbered_names od_renamed an_renamed od_renamed_gates an_renamed_gates od_second_names an_second_names od_letter_count an_letter_count od_state_count an_state_count od_step an_step od_check_gates an_check_gates od_join_netlists an_join_netlists od_join_tables an_join_tables od_law_far an_law_far od_law_parts an_law_parts od_law_is_integer an_law_is_integer od_law_bits an_law_bits od_law_gate an_law_gate od_law_netlist an_law_netlist od_law_gate_value an_law_gate_value od_law_ends an_law_ends od_law_net_table an_law_net_table od_law_same_netlist an_law_same_netlist od_law_same_table an_law_same_table od_law_joined_tables an_law_joined_tables od_law_drawn an_law_drawn od_law_padded an_law_padded od_law_renamed an_law_renamed od_law_joined an_law_joined od_law_refused an_law_refused od_law_right_netlists an_law_right_netlists od_law_right_tables an_law_right_tables od_law an_law : Option Addr}
    {sl_numbered_names sl_renamed sl_renamed_gates sl_second_names sl_letter_count sl_state_count sl_step sl_check_gates sl_join_netlists sl_join_tables sl_law_far sl_law_parts sl_law_is_integer sl_law_bits sl_law_gate sl_law_netlist sl_law_gate_value sl_law_ends sl_law_net_table sl_law_same_netlist sl_law_same_table sl_law_joined_tables sl_law_drawn sl_law_padded sl_law_renamed sl_law_joined sl_law_refused sl_law_right_netlists sl_law_right_tables sl_law : Array (Option Value)}
    {oc_numbered_names kV_numbered_names dc_numbered_names pm_numbered_names cd_numbered_names ct_numbered_names oc_renamed kV_renamed dc_renamed pm_renamed cd_renamed ct_renamed oc_renamed_gates kV_renamed_gates dc_renamed_gates pm_renamed_gates cd_renamed_gates ct_renamed_gates oc_second_names kV_second_names dc_second_names pm_second_names cd_second_names ct_second_names oc_letter_count kV_letter_count dc_letter_count pm_letter_count cd_letter_count ct_letter_count oc_state_count kV_state_count dc_state_count pm_state_count cd_state_count ct_state_count oc_step kV_step dc_step pm_step cd_step ct_step oc_check_gates kV_check_gates dc_check_gates pm_check_gates cd_check_gates ct_check_gates oc_join_netlists kV_join_netlists dc_join_netlists pm_join_netlists cd_join_netlists ct_join_netlists oc_join_tables kV_join_tables dc_join_tables pm_join_tables cd_join_tables ct_join_tables oc_law_far kV_law_far dc_law_far pm_law_far cd_law_far ct_law_far oc_law_parts kV_law_parts dc_law_parts pm_law_parts cd_law_parts ct_law_parts oc_law_is_integer kV_law_is_integer dc_law_is_integer pm_law_is_integer cd_law_is_integer ct_law_is_integer oc_law_bits kV_law_bits dc_law_bits pm_law_bits cd_law_bits ct_law_bits oc_law_gate kV_law_gate dc_law_gate pm_law_gate cd_law_gate ct_law_gate oc_law_netlist kV_law_netlist dc_law_netlist pm_law_netlist cd_law_netlist ct_law_netlist oc_law_gate_value kV_law_gate_value dc_law_gate_value pm_law_gate_value cd_law_gate_value ct_law_gate_value oc_law_ends kV_law_ends dc_law_ends pm_law_ends cd_law_ends ct_law_ends oc_law_net_table kV_law_net_table dc_law_net_table pm_law_net_table cd_law_net_table ct_law_net_table oc_law_same_netlist kV_law_same_netlist dc_law_same_netlist pm_law_same_netlist cd_law_same_netlist ct_law_same_netlist oc_law_same_table kV_law_same_table dc_law_same_table pm_law_same_table cd_law_same_table ct_law_same_table oc_law_joined_tables kV_law_joined_tables dc_law_joined_tables pm_law_joined_tables cd_law_joined_tables ct_law_joined_tables oc_law_drawn kV_law_drawn dc_law_drawn pm_law_drawn cd_law_drawn ct_law_drawn oc_law_padded kV_law_padded dc_law_padded pm_law_padded cd_law_padded ct_law_padded oc_law_renamed kV_law_renamed dc_law_renamed pm_law_renamed cd_law_renamed ct_law_renamed oc_law_joined kV_law_joined dc_law_joined pm_law_joined cd_law_joined ct_law_joined oc_law_refused kV_law_refused dc_law_refused pm_law_refused cd_law_refused ct_law_refused oc_law_right_netlists kV_law_right_netlists dc_law_right_netlists pm_law_right_netlists cd_law_right_netlists ct_law_right_netlists oc_law_right_tables kV_law_right_tables dc_law_right_tables pm_law_right_tables cd_law_right_tables ct_law_right_tables oc_law kV_law dc_law pm_law cd_law ct_law : Value}
    {t_MOST_GATES : _}
    {t_MOST_LATCHES : _}
    {t_MOST_PAIRS : _}
    {t_MOST_STATES : _}
    {t_ROWS : _}
    {C0 C1 C2 : Addr}
    (a_numbered_names : PySem.W.nsIn K mainGlobals "numbered_names" = some (some (.ref f_numbered_names)))
    (l_numbered_names : K.lookup f_numbered_names = some ⟨oc_numbered_names, od_numbered_names, .func (PySem.W.fnOf "numbered_names" "numbered_names" (defArgs s_numbered_names) (defBody s_numbered_names) (defScope s_numbered_names) .none kV_numbered_names dc_numbered_names pm_numbered_names an_numbered_names cd_numbered_names ct_numbered_names), sl_numbered_names⟩)
    (c_numbered_names : PySem.W.codeIn K cd_numbered_names "numbered_names" = true)
    (k_numbered_names : PySem.W.keepIn K (.ref f_numbered_names) = true)
    (a_renamed : PySem.W.nsIn K mainGlobals "renamed" = some (some (.ref f_renamed)))
    (l_renamed : K.lookup f_renamed = some ⟨oc_renamed, od_renamed, .func (PySem.W.fnOf "renamed" "renamed" (defArgs s_renamed) (defBody s_renamed) (defScope s_renamed) .none kV_renamed dc_renamed pm_renamed an_renamed cd_renamed ct_renamed), sl_renamed⟩)
    (c_renamed : PySem.W.codeIn K cd_renamed "renamed" = true)
    (k_renamed : PySem.W.keepIn K (.ref f_renamed) = true)
    (a_renamed_gates : PySem.W.nsIn K mainGlobals "renamed_gates" = some (some (.ref f_renamed_gates)))
    (l_renamed_gates : K.lookup f_renamed_gates = some ⟨oc_renamed_gates, od_renamed_gates, .func (PySem.W.fnOf "renamed_gates" "renamed_gates" (defArgs s_renamed_gates) (defBody s_renamed_gates) (defScope s_renamed_gates) .none kV_renamed_gates dc_renamed_gates pm_renamed_gates an_renamed_gates cd_renamed_gates ct_renamed_gates), sl_renamed_gates⟩)
    (c_renamed_gates : PySem.W.codeIn K cd_renamed_gates "renamed_gates" = true)
    (k_renamed_gates : PySem.W.keepIn K (.ref f_renamed_gates) = true)
    (a_second_names : PySem.W.nsIn K mainGlobals "second_names" = some (some (.ref f_second_names)))
    (l_second_names : K.lookup f_second_names = some ⟨oc_second_names, od_second_names, .func (PySem.W.fnOf "second_names" "second_names" (defArgs s_second_names) (defBody s_second_names) (defScope s_second_names) .none kV_second_names dc_second_names pm_second_names an_second_names cd_second_names ct_second_names), sl_second_names⟩)
    (c_second_names : PySem.W.codeIn K cd_second_names "second_names" = true)
    (k_second_names : PySem.W.keepIn K (.ref f_second_names) = true)
    (a_letter_count : PySem.W.nsIn K mainGlobals "letter_count" = some (some (.ref f_letter_count)))
    (l_letter_count : K.lookup f_letter_count = some ⟨oc_letter_count, od_letter_count, .func (PySem.W.fnOf "letter_count" "letter_count" (defArgs s_letter_count) (defBody s_letter_count) (defScope s_letter_count) .none kV_letter_count dc_letter_count pm_letter_count an_letter_count cd_letter_count ct_letter_count), sl_letter_count⟩)
    (c_letter_count : PySem.W.codeIn K cd_letter_count "letter_count" = true)
    (k_letter_count : PySem.W.keepIn K (.ref f_letter_count) = true)
    (a_state_count : PySem.W.nsIn K mainGlobals "state_count" = some (some (.ref f_state_count)))
    (l_state_count : K.lookup f_state_count = some ⟨oc_state_count, od_state_count, .func (PySem.W.fnOf "state_count" "state_count" (defArgs s_state_count) (defBody s_state_count) (defScope s_state_count) .none kV_state_count dc_state_count pm_state_count an_state_count cd_state_count ct_state_count), sl_state_count⟩)
    (c_state_count : PySem.W.codeIn K cd_state_count "state_count" = true)
    (k_state_count : PySem.W.keepIn K (.ref f_state_count) = true)
    (a_step : PySem.W.nsIn K mainGlobals "step" = some (some (.ref f_step)))
    (l_step : K.lookup f_step = some ⟨oc_step, od_step, .func (PySem.W.fnOf "step" "step" (defArgs s_step) (defBody s_step) (defScope s_step) .none kV_step dc_step pm_step an_step cd_step ct_step), sl_step⟩)
    (c_step : PySem.W.codeIn K cd_step "step" = true)
    (k_step : PySem.W.keepIn K (.ref f_step) = true)
    (a_check_gates : PySem.W.nsIn K mainGlobals "check_gates" = some (some (.ref f_check_gates)))
    (l_check_gates : K.lookup f_check_gates = some ⟨oc_check_gates, od_check_gates, .func (PySem.W.fnOf "check_gates" "check_gates" (defArgs s_check_gates) (defBody s_check_gates) (defScope s_check_gates) .none kV_check_gates dc_check_gates pm_check_gates an_check_gates cd_check_gates ct_check_gates), sl_check_gates⟩)
    (c_check_gates : PySem.W.codeIn K cd_check_gates "check_gates" = true)
    (k_check_gates : PySem.W.keepIn K (.ref f_check_gates) = true)
    (a_join_netlists : PySem.W.nsIn K mainGlobals "join_netlists" = some (some (.ref f_join_netlists)))
    (l_join_netlists : K.lookup f_join_netlists = some ⟨oc_join_netlists, od_join_netlists, .func (PySem.W.fnOf "join_netlists" "join_netlists" (defArgs s_join_netlists) (defBody s_join_netlists) (defScope s_join_netlists) .none kV_join_netlists dc_join_netlists pm_join_netlists an_join_netlists cd_join_netlists ct_join_netlists), sl_join_netlists⟩)
    (c_join_netlists : PySem.W.codeIn K cd_join_netlists "join_netlists" = true)
    (k_join_netlists : PySem.W.keepIn K (.ref f_join_netlists) = true)
    (a_join_tables : PySem.W.nsIn K mainGlobals "join_tables" = some (some (.ref f_join_tables)))
    (l_join_tables : K.lookup f_join_tables = some ⟨oc_join_tables, od_join_tables, .func (PySem.W.fnOf "join_tables" "join_tables" (defArgs s_join_tables) (defBody s_join_tables) (defScope s_join_tables) .none kV_join_tables dc_join_tables pm_join_tables an_join_tables cd_join_tables ct_join_tables), sl_join_tables⟩)
    (c_join_tables : PySem.W.codeIn K cd_join_tables "join_tables" = true)
    (k_join_tables : PySem.W.keepIn K (.ref f_join_tables) = true)
    (a_law_far : PySem.W.nsIn K mainGlobals "_law_far" = some (some (.ref f_law_far)))
    (l_law_far : K.lookup f_law_far = some ⟨oc_law_far, od_law_far, .func (PySem.W.fnOf "_law_far" "_law_far" (defArgs s_law_far) (defBody s_law_far) (defScope s_law_far) .none kV_law_far dc_law_far pm_law_far an_law_far cd_law_far ct_law_far), sl_law_far⟩)
    (c_law_far : PySem.W.codeIn K cd_law_far "_law_far" = true)
    (k_law_far : PySem.W.keepIn K (.ref f_law_far) = true)
    (a_law_parts : PySem.W.nsIn K mainGlobals "_law_parts" = some (some (.ref f_law_parts)))
    (l_law_parts : K.lookup f_law_parts = some ⟨oc_law_parts, od_law_parts, .func (PySem.W.fnOf "_law_parts" "_law_parts" (defArgs s_law_parts) (defBody s_law_parts) (defScope s_law_parts) .none kV_law_parts dc_law_parts pm_law_parts an_law_parts cd_law_parts ct_law_parts), sl_law_parts⟩)
    (c_law_parts : PySem.W.codeIn K cd_law_parts "_law_parts" = true)
    (k_law_parts : PySem.W.keepIn K (.ref f_law_parts) = true)
    (a_law_is_integer : PySem.W.nsIn K mainGlobals "_law_is_integer" = some (some (.ref f_law_is_integer)))
    (l_law_is_integer : K.lookup f_law_is_integer = some ⟨oc_law_is_integer, od_law_is_integer, .func (PySem.W.fnOf "_law_is_integer" "_law_is_integer" (defArgs s_law_is_integer) (defBody s_law_is_integer) (defScope s_law_is_integer) .none kV_law_is_integer dc_law_is_integer pm_law_is_integer an_law_is_integer cd_law_is_integer ct_law_is_integer), sl_law_is_integer⟩)
    (c_law_is_integer : PySem.W.codeIn K cd_law_is_integer "_law_is_integer" = true)
    (k_law_is_integer : PySem.W.keepIn K (.ref f_law_is_integer) = true)
    (a_law_bits : PySem.W.nsIn K mainGlobals "_law_bits" = some (some (.ref f_law_bits)))
    (l_law_bits : K.lookup f_law_bits = some ⟨oc_law_bits, od_law_bits, .func (PySem.W.fnOf "_law_bits" "_law_bits" (defArgs s_law_bits) (defBody s_law_bits) (defScope s_law_bits) .none kV_law_bits dc_law_bits pm_law_bits an_law_bits cd_law_bits ct_law_bits), sl_law_bits⟩)
    (c_law_bits : PySem.W.codeIn K cd_law_bits "_law_bits" = true)
    (k_law_bits : PySem.W.keepIn K (.ref f_law_bits) = true)
    (a_law_gate : PySem.W.nsIn K mainGlobals "_law_gate" = some (some (.ref f_law_gate)))
    (l_law_gate : K.lookup f_law_gate = some ⟨oc_law_gate, od_law_gate, .func (PySem.W.fnOf "_law_gate" "_law_gate" (defArgs s_law_gate) (defBody s_law_gate) (defScope s_law_gate) .none kV_law_gate dc_law_gate pm_law_gate an_law_gate cd_law_gate ct_law_gate), sl_law_gate⟩)
    (c_law_gate : PySem.W.codeIn K cd_law_gate "_law_gate" = true)
    (k_law_gate : PySem.W.keepIn K (.ref f_law_gate) = true)
    (a_law_netlist : PySem.W.nsIn K mainGlobals "_law_netlist" = some (some (.ref f_law_netlist)))
    (l_law_netlist : K.lookup f_law_netlist = some ⟨oc_law_netlist, od_law_netlist, .func (PySem.W.fnOf "_law_netlist" "_law_netlist" (defArgs s_law_netlist) (defBody s_law_netlist) (defScope s_law_netlist) .none kV_law_netlist dc_law_netlist pm_law_netlist an_law_netlist cd_law_netlist ct_law_netlist), sl_law_netlist⟩)
    (c_law_netlist : PySem.W.codeIn K cd_law_netlist "_law_netlist" = true)
    (k_law_netlist : PySem.W.keepIn K (.ref f_law_netlist) = true)
    (a_law_gate_value : PySem.W.nsIn K mainGlobals "_law_gate_value" = some (some (.ref f_law_gate_value)))
    (l_law_gate_value : K.lookup f_law_gate_value = some ⟨oc_law_gate_value, od_law_gate_value, .func (PySem.W.fnOf "_law_gate_value" "_law_gate_value" (defArgs s_law_gate_value) (defBody s_law_gate_value) (defScope s_law_gate_value) .none kV_law_gate_value dc_law_gate_value pm_law_gate_value an_law_gate_value cd_law_gate_value ct_law_gate_value), sl_law_gate_value⟩)
    (c_law_gate_value : PySem.W.codeIn K cd_law_gate_value "_law_gate_value" = true)
    (k_law_gate_value : PySem.W.keepIn K (.ref f_law_gate_value) = true)
    (a_law_ends : PySem.W.nsIn K mainGlobals "_law_ends" = some (some (.ref f_law_ends)))
    (l_law_ends : K.lookup f_law_ends = some ⟨oc_law_ends, od_law_ends, .func (PySem.W.fnOf "_law_ends" "_law_ends" (defArgs s_law_ends) (defBody s_law_ends) (defScope s_law_ends) .none kV_law_ends dc_law_ends pm_law_ends an_law_ends cd_law_ends ct_law_ends), sl_law_ends⟩)
    (c_law_ends : PySem.W.codeIn K cd_law_ends "_law_ends" = true)
    (k_law_ends : PySem.W.keepIn K (.ref f_law_ends) = true)
    (a_law_net_table : PySem.W.nsIn K mainGlobals "_law_net_table" = some (some (.ref f_law_net_table)))
    (l_law_net_table : K.lookup f_law_net_table = some ⟨oc_law_net_table, od_law_net_table, .func (PySem.W.fnOf "_law_net_table" "_law_net_table" (defArgs s_law_net_table) (defBody s_law_net_table) (defScope s_law_net_table) .none kV_law_net_table dc_law_net_table pm_law_net_table an_law_net_table cd_law_net_table ct_law_net_table), sl_law_net_table⟩)
    (c_law_net_table : PySem.W.codeIn K cd_law_net_table "_law_net_table" = true)
    (k_law_net_table : PySem.W.keepIn K (.ref f_law_net_table) = true)
    (a_law_same_netlist : PySem.W.nsIn K mainGlobals "_law_same_netlist" = some (some (.ref f_law_same_netlist)))
    (l_law_same_netlist : K.lookup f_law_same_netlist = some ⟨oc_law_same_netlist, od_law_same_netlist, .func (PySem.W.fnOf "_law_same_netlist" "_law_same_netlist" (defArgs s_law_same_netlist) (defBody s_law_same_netlist) (defScope s_law_same_netlist) .none kV_law_same_netlist dc_law_same_netlist pm_law_same_netlist an_law_same_netlist cd_law_same_netlist ct_law_same_netlist), sl_law_same_netlist⟩)
    (c_law_same_netlist : PySem.W.codeIn K cd_law_same_netlist "_law_same_netlist" = true)
    (k_law_same_netlist : PySem.W.keepIn K (.ref f_law_same_netlist) = true)
    (a_law_same_table : PySem.W.nsIn K mainGlobals "_law_same_table" = some (some (.ref f_law_same_table)))
    (l_law_same_table : K.lookup f_law_same_table = some ⟨oc_law_same_table, od_law_same_table, .func (PySem.W.fnOf "_law_same_table" "_law_same_table" (defArgs s_law_same_table) (defBody s_law_same_table) (defScope s_law_same_table) .none kV_law_same_table dc_law_same_table pm_law_same_table an_law_same_table cd_law_same_table ct_law_same_table), sl_law_same_table⟩)
    (c_law_same_table : PySem.W.codeIn K cd_law_same_table "_law_same_table" = true)
    (k_law_same_table : PySem.W.keepIn K (.ref f_law_same_table) = true)
    (a_law_joined_tables : PySem.W.nsIn K mainGlobals "_law_joined_tables" = some (some (.ref f_law_joined_tables)))
    (l_law_joined_tables : K.lookup f_law_joined_tables = some ⟨oc_law_joined_tables, od_law_joined_tables, .func (PySem.W.fnOf "_law_joined_tables" "_law_joined_tables" (defArgs s_law_joined_tables) (defBody s_law_joined_tables) (defScope s_law_joined_tables) .none kV_law_joined_tables dc_law_joined_tables pm_law_joined_tables an_law_joined_tables cd_law_joined_tables ct_law_joined_tables), sl_law_joined_tables⟩)
    (c_law_joined_tables : PySem.W.codeIn K cd_law_joined_tables "_law_joined_tables" = true)
    (k_law_joined_tables : PySem.W.keepIn K (.ref f_law_joined_tables) = true)
    (a_law_drawn : PySem.W.nsIn K mainGlobals "_law_drawn" = some (some (.ref f_law_drawn)))
    (l_law_drawn : K.lookup f_law_drawn = some ⟨oc_law_drawn, od_law_drawn, .func (PySem.W.fnOf "_law_drawn" "_law_drawn" (defArgs s_law_drawn) (defBody s_law_drawn) (defScope s_law_drawn) .none kV_law_drawn dc_law_drawn pm_law_drawn an_law_drawn cd_law_drawn ct_law_drawn), sl_law_drawn⟩)
    (c_law_drawn : PySem.W.codeIn K cd_law_drawn "_law_drawn" = true)
    (k_law_drawn : PySem.W.keepIn K (.ref f_law_drawn) = true)
    (a_law_padded : PySem.W.nsIn K mainGlobals "_law_padded" = some (some (.ref f_law_padded)))
    (l_law_padded : K.lookup f_law_padded = some ⟨oc_law_padded, od_law_padded, .func (PySem.W.fnOf "_law_padded" "_law_padded" (defArgs s_law_padded) (defBody s_law_padded) (defScope s_law_padded) .none kV_law_padded dc_law_padded pm_law_padded an_law_padded cd_law_padded ct_law_padded), sl_law_padded⟩)
    (c_law_padded : PySem.W.codeIn K cd_law_padded "_law_padded" = true)
    (k_law_padded : PySem.W.keepIn K (.ref f_law_padded) = true)
    (a_law_renamed : PySem.W.nsIn K mainGlobals "_law_renamed" = some (some (.ref f_law_renamed)))
    (l_law_renamed : K.lookup f_law_renamed = some ⟨oc_law_renamed, od_law_renamed, .func (PySem.W.fnOf "_law_renamed" "_law_renamed" (defArgs s_law_renamed) (defBody s_law_renamed) (defScope s_law_renamed) .none kV_law_renamed dc_law_renamed pm_law_renamed an_law_renamed cd_law_renamed ct_law_renamed), sl_law_renamed⟩)
    (c_law_renamed : PySem.W.codeIn K cd_law_renamed "_law_renamed" = true)
    (k_law_renamed : PySem.W.keepIn K (.ref f_law_renamed) = true)
    (a_law_joined : PySem.W.nsIn K mainGlobals "_law_joined" = some (some (.ref f_law_joined)))
    (l_law_joined : K.lookup f_law_joined = some ⟨oc_law_joined, od_law_joined, .func (PySem.W.fnOf "_law_joined" "_law_joined" (defArgs s_law_joined) (defBody s_law_joined) (defScope s_law_joined) .none kV_law_joined dc_law_joined pm_law_joined an_law_joined cd_law_joined ct_law_joined), sl_law_joined⟩)
    (c_law_joined : PySem.W.codeIn K cd_law_joined "_law_joined" = true)
    (k_law_joined : PySem.W.keepIn K (.ref f_law_joined) = true)
    (a_law_refused : PySem.W.nsIn K mainGlobals "_law_refused" = some (some (.ref f_law_refused)))
    (l_law_refused : K.lookup f_law_refused = some ⟨oc_law_refused, od_law_refused, .func (PySem.W.fnOf "_law_refused" "_law_refused" (defArgs s_law_refused) (defBody s_law_refused) (defScope s_law_refused) .none kV_law_refused dc_law_refused pm_law_refused an_law_refused cd_law_refused ct_law_refused), sl_law_refused⟩)
    (c_law_refused : PySem.W.codeIn K cd_law_refused "_law_refused" = true)
    (k_law_refused : PySem.W.keepIn K (.ref f_law_refused) = true)
    (a_law_right_netlists : PySem.W.nsIn K mainGlobals "_law_right_netlists" = some (some (.ref f_law_right_netlists)))
    (l_law_right_netlists : K.lookup f_law_right_netlists = some ⟨oc_law_right_netlists, od_law_right_netlists, .func (PySem.W.fnOf "_law_right_netlists" "_law_right_netlists" (defArgs s_law_right_netlists) (defBody s_law_right_netlists) (defScope s_law_right_netlists) .none kV_law_right_netlists dc_law_right_netlists pm_law_right_netlists an_law_right_netlists cd_law_right_netlists ct_law_right_netlists), sl_law_right_netlists⟩)
    (c_law_right_netlists : PySem.W.codeIn K cd_law_right_netlists "_law_right_netlists" = true)
    (k_law_right_netlists : PySem.W.keepIn K (.ref f_law_right_netlists) = true)
    (a_law_right_tables : PySem.W.nsIn K mainGlobals "_law_right_tables" = some (some (.ref f_law_right_tables)))
    (l_law_right_tables : K.lookup f_law_right_tables = some ⟨oc_law_right_tables, od_law_right_tables, .func (PySem.W.fnOf "_law_right_tables" "_law_right_tables" (defArgs s_law_right_tables) (defBody s_law_right_tables) (defScope s_law_right_tables) .none kV_law_right_tables dc_law_right_tables pm_law_right_tables an_law_right_tables cd_law_right_tables ct_law_right_tables), sl_law_right_tables⟩)
    (c_law_right_tables : PySem.W.codeIn K cd_law_right_tables "_law_right_tables" = true)
    (k_law_right_tables : PySem.W.keepIn K (.ref f_law_right_tables) = true)
    (a_law : PySem.W.nsIn K mainGlobals "law" = some (some (.ref f_law)))
    (l_law : K.lookup f_law = some ⟨oc_law, od_law, .func (PySem.W.fnOf "law" "law" (defArgs s_law) (defBody s_law) (defScope s_law) .none kV_law dc_law pm_law an_law cd_law ct_law), sl_law⟩)
    (c_law : PySem.W.codeIn K cd_law "law" = true)
    (k_law : PySem.W.keepIn K (.ref f_law) = true)
    (n_bool : PySem.W.nsIn K mainGlobals "bool" = some none)
    (n_enumerate : PySem.W.nsIn K mainGlobals "enumerate" = some none)
    (n_int : PySem.W.nsIn K mainGlobals "int" = some none)
    (n_isinstance : PySem.W.nsIn K mainGlobals "isinstance" = some none)
    (n_len : PySem.W.nsIn K mainGlobals "len" = some none)
    (n_list : PySem.W.nsIn K mainGlobals "list" = some none)
    (n_min : PySem.W.nsIn K mainGlobals "min" = some none)
    (n_range : PySem.W.nsIn K mainGlobals "range" = some none)
    (n_str : PySem.W.nsIn K mainGlobals "str" = some none)
    (n_sum : PySem.W.nsIn K mainGlobals "sum" = some none)
    (n_tuple : PySem.W.nsIn K mainGlobals "tuple" = some none)
    (n_zip : PySem.W.nsIn K mainGlobals "zip" = some none)
    (z_MOST_GATES : PySem.W.nsIn K mainGlobals "MOST_GATES" = some (some (.int (40) t_MOST_GATES)))
    (z_MOST_LATCHES : PySem.W.nsIn K mainGlobals "MOST_LATCHES" = some (some (.int (4) t_MOST_LATCHES)))
    (z_MOST_PAIRS : PySem.W.nsIn K mainGlobals "MOST_PAIRS" = some (some (.int (1024) t_MOST_PAIRS)))
    (z_MOST_STATES : PySem.W.nsIn K mainGlobals "MOST_STATES" = some (some (.int (32) t_MOST_STATES)))
    (z_ROWS : PySem.W.nsIn K mainGlobals "ROWS" = some (some (.int (2) t_ROWS)))
    (g_0 : PySem.W.nsIn K mainGlobals "NoSuchThing" = some (some (.ref C0)))
    (g_1 : PySem.W.nsIn K mainGlobals "TooLarge" = some (some (.ref C1)))
    (g_2 : PySem.W.nsIn K mainGlobals "GatesError" = some (some (.ref C2)))
    (ec_0_0 : PySem.W.findIn K (.ref C0) "__getattribute__" = some (some (.builtin "BaseException.__getattribute__")))
    (ec_0_1 : PySem.W.findIn K (.ref C0) "__getattr__" = some none)
    (ec_0_2 : PySem.W.subIn K (.ref C0) (.type "BaseException") = some true)
    (ec_0_3 : PySem.W.hasDictIn K C0 = true)
    (ec_0_4 : PySem.W.findIn K (.ref C0) "__class__" = some (some (.builtin "object.__class__")))
    (ec_0_5 : PySem.W.specialIn K (.builtin "object.__class__") "__get__" = some (some (.builtin "getset_descriptor.__get__")))
    (ec_0_6 : PySem.W.takesIn K (.builtin "object.__class__") = some true)
    (ec_0_7 : PySem.W.mroIn K C0 (.type "object") = some true)
    (ex_0 : PySem.W.exmOne K (.ref C0) (.ref C2) = some true)
    (kit_0_0 : PySem.W.kitOne K (.ref C0) (.ref C0) = some true)
    (kit_0_1 : PySem.W.kitOne K (.ref C0) (.ref C1) = some false)
    (ec_1_0 : PySem.W.findIn K (.ref C1) "__getattribute__" = some (some (.builtin "BaseException.__getattribute__")))
    (ec_1_1 : PySem.W.findIn K (.ref C1) "__getattr__" = some none)
    (ec_1_2 : PySem.W.subIn K (.ref C1) (.type "BaseException") = some true)
    (ec_1_3 : PySem.W.hasDictIn K C1 = true)
    (ec_1_4 : PySem.W.findIn K (.ref C1) "__class__" = some (some (.builtin "object.__class__")))
    (ec_1_5 : PySem.W.specialIn K (.builtin "object.__class__") "__get__" = some (some (.builtin "getset_descriptor.__get__")))
    (ec_1_6 : PySem.W.takesIn K (.builtin "object.__class__") = some true)
    (ec_1_7 : PySem.W.mroIn K C1 (.type "object") = some true)
    (ex_1 : PySem.W.exmOne K (.ref C1) (.ref C2) = some true)
    (kit_1_0 : PySem.W.kitOne K (.ref C1) (.ref C0) = some false)
    (kit_1_1 : PySem.W.kitOne K (.ref C1) (.ref C1) = some true)
    (x_0 : PySem.W.excIn K C0 [.type "ValueError", .type "Exception", .type "BaseException", .type "object"] "ValueError.__new__" = true)
    (k_0 : PySem.W.keepIn K (.ref C0) = true)
    (b_0 : PySem.W.subIn K (.ref C0) (.type "BaseException") = some true)
    (t_0 : PySem.W.typeIn K (.ref C0) = some (.type "type"))
    (x_1 : PySem.W.excIn K C1 [.type "ValueError", .type "Exception", .type "BaseException", .type "object"] "ValueError.__new__" = true)
    (k_1 : PySem.W.keepIn K (.ref C1) = true)
    (b_1 : PySem.W.subIn K (.ref C1) (.type "BaseException") = some true)
    (t_1 : PySem.W.typeIn K (.ref C1) = some (.type "type"))
    : ∃ fd : FuncData, (∀ (s : Shared) (v : Value), BindsTo s fd ⟨[v], []⟩ [("script", v)]) ∧ ∀ base : Heap, K.In base → base.Ns mainGlobals mg → FnOk P w K mg base (L2.CX P w) 6 fa fd ["script"] (spLaw K) := by
  have e := hfa.symm.trans (PySem.W.mg_of X G a_law)
  cases e
  have T : Txt K mg (fun k => ([C0, C1, C2] : List Addr).getD k 0) := { n_bool := PySem.W.mg_none_of X G n_bool, n_enumerate := PySem.W.mg_none_of X G n_enumerate, n_int := PySem.W.mg_none_of X G n_int, n_isinstance := PySem.W.mg_none_of X G n_isinstance, n_len := PySem.W.mg_none_of X G n_len, n_list := PySem.W.mg_none_of X G n_list, n_min := PySem.W.mg_none_of X G n_min, n_range := PySem.W.mg_none_of X G n_range, n_str := PySem.W.mg_none_of X G n_str, n_sum := PySem.W.mg_none_of X G n_sum, n_tuple := PySem.W.mg_none_of X G n_tuple, n_zip := PySem.W.mg_none_of X G n_zip, c_MOST_GATES := ⟨t_MOST_GATES, PySem.W.mg_of X G z_MOST_GATES⟩, c_MOST_LATCHES := ⟨t_MOST_LATCHES, PySem.W.mg_of X G z_MOST_LATCHES⟩, c_MOST_PAIRS := ⟨t_MOST_PAIRS, PySem.W.mg_of X G z_MOST_PAIRS⟩, c_MOST_STATES := ⟨t_MOST_STATES, PySem.W.mg_of X G z_MOST_STATES⟩, c_ROWS := ⟨t_ROWS, PySem.W.mg_of X G z_ROWS⟩, g_0 := PySem.W.mg_of X G g_0, g_1 := PySem.W.mg_of X G g_1, g_2 := PySem.W.mg_of X G g_2, ec_0 := ⟨ec_0_0, ec_0_1, ec_0_2, ec_0_3, ec_0_4, ec_0_5, ec_0_6, ec_0_7⟩, ex_0 := ex_0, kit_0_0 := kit_0_0, kit_0_1 := kit_0_1, ec_1 := ⟨ec_1_0, ec_1_1, ec_1_2, ec_1_3, ec_1_4, ec_1_5, ec_1_6, ec_1_7⟩, ex_1 := ex_1, kit_1_0 := kit_1_0, kit_1_1 := kit_1_1, x_0 := x_0, k_0 := k_0, b_0 := b_0, t_0 := t_0, x_1 := x_1, k_1 := k_1, b_1 := b_1, t_1 := t_1 }
  refine ⟨PySem.W.fnOf "law" "law" (defArgs s_law) (defBody s_law) (defScope s_law) .none kV_law dc_law pm_law an_law cd_law ct_law, fun s v => .of_eq rfl, fun base _ _ => ?_⟩
  have F_law_parts := fun_mk (st := s_law_parts) l_law_parts c_law_parts k_law_parts
  have O_law_parts := ok_law_parts (P := P) (w := w) (base := base) F_law_parts T 
  have C_law_parts : Cal P w K mg base "_law_parts" 1 ["cell", "sizes"] _ := ⟨_, _, O_law_parts, PySem.W.mg_of X G a_law_parts, k_law_parts, F_law_parts.binds (ps := ["cell", "sizes"]) fun _ _ _ _ _ _ us hl => match us, hl with | [_, _], _ => rfl⟩
  have F_law_far := fun_mk (st := s_law_far) l_law_far c_law_far k_law_far
  have O_law_far := ok_law_far (P := P) (w := w) (base := base) F_law_far T 
  have C_law_far : Cal P w K mg base "_law_far" 1 ["script", "k"] _ := ⟨_, _, O_law_far, PySem.W.mg_of X G a_law_far, k_law_far, F_law_far.binds (ps := ["script", "k"]) fun _ _ _ _ _ _ us hl => match us, hl with | [_, _], _ => rfl⟩
  have F_law_gate := fun_mk (st := s_law_gate) l_law_gate c_law_gate k_law_gate
  have O_law_gate := ok_law_gate (P := P) (w := w) (base := base) F_law_gate T 
  have C_law_gate : Cal P w K mg base "_law_gate" 1 ["name", "parts", "nets"] _ := ⟨_, _, O_law_gate, PySem.W.mg_of X G a_law_gate, k_law_gate, F_law_gate.binds (ps := ["name", "parts", "nets"]) fun _ _ _ _ _ _ us hl => match us, hl with | [_, _, _], _ => rfl⟩
  have F_law_netlist := fun_mk (st := s_law_netlist) l_law_netlist c_law_netlist k_law_netlist
  have O_law_netlist := ok_law_netlist (P := P) (w := w) (base := base) F_law_netlist T C_law_parts C_law_far C_law_gate
  have C_law_netlist : Cal P w K mg base "_law_netlist" 2 ["script", "at", "sizes"] _ := ⟨_, _, O_law_netlist, PySem.W.mg_of X G a_law_netlist, k_law_netlist, F_law_netlist.binds (ps := ["script", "at", "sizes"]) fun _ _ _ _ _ _ us hl => match us, hl with | [_, _, _], _ => rfl⟩
  have F_numbered_names := fun_mk (st := s_numbered_names) l_numbered_names c_numbered_names k_numbered_names
  have O_numbered_names := ok_numbered_names (P := P) (w := w) (base := base) F_numbered_names T 
  have C_numbered_names : Cal P w K mg base "numbered_names" 1 ["netlist"] _ := ⟨_, _, O_numbered_names, PySem.W.mg_of X G a_numbered_names, k_numbered_names, F_numbered_names.binds (ps := ["netlist"]) fun _ _ _ _ _ _ us hl => match us, hl with | [_], _ => rfl⟩
  have F_second_names := fun_mk (st := s_second_names) l_second_names c_second_names k_second_names
  have O_second_names := ok_second_names (P := P) (w := w) (base := base) F_second_names T 
  have C_second_names : Cal P w K mg base "second_names" 1 ["second", "names", "sources"] _ := ⟨_, _, O_second_names, PySem.W.mg_of X G a_second_names, k_second_names, F_second_names.binds (ps := ["second", "names", "sources"]) fun _ _ _ _ _ _ us hl => match us, hl with | [_, _, _], _ => rfl⟩
  have F_renamed := fun_mk (st := s_renamed) l_renamed c_renamed k_renamed
  have O_renamed := ok_renamed (P := P) (w := w) (base := base) F_renamed T 
  have C_renamed : Cal P w K mg base "renamed" 1 ["names", "nets"] _ := ⟨_, _, O_renamed, PySem.W.mg_of X G a_renamed, k_renamed, F_renamed.binds (ps := ["names", "nets"]) fun _ _ _ _ _ _ us hl => match us, hl with | [_, _], _ => rfl⟩
  have F_renamed_gates := fun_mk (st := s_renamed_gates) l_renamed_gates c_renamed_gates k_renamed_gates
  have O_renamed_gates := ok_renamed_gates (P := P) (w := w) (base := base) F_renamed_gates T C_renamed
  have C_renamed_gates : Cal P w K mg base "renamed_gates" 2 ["netlist", "names"] _ := ⟨_, _, O_renamed_gates, PySem.W.mg_of X G a_renamed_gates, k_renamed_gates, F_renamed_gates.binds (ps := ["netlist", "names"]) fun _ _ _ _ _ _ us hl => match us, hl with | [_, _], _ => rfl⟩
  have F_check_gates := fun_mk (st := s_check_gates) l_check_gates c_check_gates k_check_gates
  have O_check_gates := ok_check_gates (P := P) (w := w) (base := base) F_check_gates T 
  have C_check_gates : Cal P w K mg base "check_gates" 1 ["gates"] _ := ⟨_, _, O_check_gates, PySem.W.mg_of X G a_check_gates, k_check_gates, F_check_gates.binds (ps := ["gates"]) fun _ _ _ _ _ _ us hl => match us, hl with | [_], _ => rfl⟩
  have F_join_netlists := fun_mk (st := s_join_netlists) l_join_netlists c_join_netlists k_join_netlists
  have O_join_netlists := ok_join_netlists (P := P) (w := w) (base := base) F_join_netlists T C_numbered_names C_second_names C_renamed_gates C_check_gates C_renamed
  have C_join_netlists : Cal P w K mg base "join_netlists" 3 ["first", "second"] _ := ⟨_, _, O_join_netlists, PySem.W.mg_of X G a_join_netlists, k_join_netlists, F_join_netlists.binds (ps := ["first", "second"]) fun _ _ _ _ _ _ us hl => match us, hl with | [_, _], _ => rfl⟩
  have F_state_count := fun_mk (st := s_state_count) l_state_count c_state_count k_state_count
  have O_state_count := ok_state_count (P := P) (w := w) (base := base) F_state_count T 
  have C_state_count : Cal P w K mg base "state_count" 1 ["table"] _ := ⟨_, _, O_state_count, PySem.W.mg_of X G a_state_count, k_state_count, F_state_count.binds (ps := ["table"]) fun _ _ _ _ _ _ us hl => match us, hl with | [_], _ => rfl⟩
  have F_letter_count := fun_mk (st := s_letter_count) l_letter_count c_letter_count k_letter_count
  have O_letter_count := ok_letter_count (P := P) (w := w) (base := base) F_letter_count T 
  have C_letter_count : Cal P w K mg base "letter_count" 1 ["table"] _ := ⟨_, _, O_letter_count, PySem.W.mg_of X G a_letter_count, k_letter_count, F_letter_count.binds (ps := ["table"]) fun _ _ _ _ _ _ us hl => match us, hl with | [_], _ => rfl⟩
  have F_step := fun_mk (st := s_step) l_step c_step k_step
  have O_step := ok_step (P := P) (w := w) (base := base) F_step T 
  have C_step : Cal P w K mg base "step" 1 ["table", "state", "letter"] _ := ⟨_, _, O_step, PySem.W.mg_of X G a_step, k_step, F_step.binds (ps := ["table", "state", "letter"]) fun _ _ _ _ _ _ us hl => match us, hl with | [_, _, _], _ => rfl⟩
  have F_join_tables := fun_mk (st := s_join_tables) l_join_tables c_join_tables k_join_tables
  have O_join_tables := ok_join_tables (P := P) (w := w) (base := base) F_join_tables T C_state_count C_letter_count C_step
  have C_join_tables : Cal P w K mg base "join_tables" 2 ["first", "second"] _ := ⟨_, _, O_join_tables, PySem.W.mg_of X G a_join_tables, k_join_tables, F_join_tables.binds (ps := ["first", "second"]) fun _ _ _ _ _ _ us hl => match us, hl with | [_, _], _ => rfl⟩
  have F_law_refused := fun_mk (st := s_law_refused) l_law_refused c_law_refused k_law_refused
  have O_law_refused := ok_law_refused (P := P) (w := w) (base := base) F_law_refused T C_join_netlists C_join_tables
  have C_law_refused : Cal P w K mg base "_law_refused" 4 ["nets", "first", "second", "large"] _ := ⟨_, _, O_law_refused, PySem.W.mg_of X G a_law_refused, k_law_refused, F_law_refused.binds (ps := ["nets", "first", "second", "large"]) fun _ _ _ _ _ _ us hl => match us, hl with | [_, _, _, _], _ => rfl⟩
  have F_law_is_integer := fun_mk (st := s_law_is_integer) l_law_is_integer c_law_is_integer k_law_is_integer
  have O_law_is_integer := ok_law_is_integer (P := P) (w := w) (base := base) F_law_is_integer T 
  have C_law_is_integer : Cal P w K mg base "_law_is_integer" 1 ["actual"] _ := ⟨_, _, O_law_is_integer, PySem.W.mg_of X G a_law_is_integer, k_law_is_integer, F_law_is_integer.binds (ps := ["actual"]) fun _ _ _ _ _ _ us hl => match us, hl with | [_], _ => rfl⟩
  have F_law_same_table := fun_mk (st := s_law_same_table) l_law_same_table c_law_same_table k_law_same_table
  have O_law_same_table := ok_law_same_table (P := P) (w := w) (base := base) F_law_same_table T C_law_is_integer
  have C_law_same_table : Cal P w K mg base "_law_same_table" 2 ["actual", "expected"] _ := ⟨_, _, O_law_same_table, PySem.W.mg_of X G a_law_same_table, k_law_same_table, F_law_same_table.binds (ps := ["actual", "expected"]) fun _ _ _ _ _ _ us hl => match us, hl with | [_, _], _ => rfl⟩
  have F_law_joined_tables := fun_mk (st := s_law_joined_tables) l_law_joined_tables c_law_joined_tables k_law_joined_tables
  have O_law_joined_tables := ok_law_joined_tables (P := P) (w := w) (base := base) F_law_joined_tables T 
  have C_law_joined_tables : Cal P w K mg base "_law_joined_tables" 1 ["first", "second"] _ := ⟨_, _, O_law_joined_tables, PySem.W.mg_of X G a_law_joined_tables, k_law_joined_tables, F_law_joined_tables.binds (ps := ["first", "second"]) fun _ _ _ _ _ _ us hl => match us, hl with | [_, _], _ => rfl⟩
  have F_law_right_tables := fun_mk (st := s_law_right_tables) l_law_right_tables c_law_right_tables k_law_right_tables
  have O_law_right_tables := ok_law_right_tables (P := P) (w := w) (base := base) F_law_right_tables T C_law_refused C_law_same_table C_join_tables C_law_joined_tables
  have C_law_right_tables : Cal P w K mg base "_law_right_tables" 5 ["first", "second"] _ := ⟨_, _, O_law_right_tables, PySem.W.mg_of X G a_law_right_tables, k_law_right_tables, F_law_right_tables.binds (ps := ["first", "second"]) fun _ _ _ _ _ _ us hl => match us, hl with | [_, _], _ => rfl⟩
  have F_law_gate_value := fun_mk (st := s_law_gate_value) l_law_gate_value c_law_gate_value k_law_gate_value
  have O_law_gate_value := ok_law_gate_value (P := P) (w := w) (base := base) F_law_gate_value T 
  have C_law_gate_value : Cal P w K mg base "_law_gate_value" 1 ["kind", "bits"] _ := ⟨_, _, O_law_gate_value, PySem.W.mg_of X G a_law_gate_value, k_law_gate_value, F_law_gate_value.binds (ps := ["kind", "bits"]) fun _ _ _ _ _ _ us hl => match us, hl with | [_, _], _ => rfl⟩
  have F_law_ends := fun_mk (st := s_law_ends) l_law_ends c_law_ends k_law_ends
  have O_law_ends := ok_law_ends (P := P) (w := w) (base := base) F_law_ends T C_law_gate_value
  have C_law_ends : Cal P w K mg base "_law_ends" 2 ["netlist", "bits"] _ := ⟨_, _, O_law_ends, PySem.W.mg_of X G a_law_ends, k_law_ends, F_law_ends.binds (ps := ["netlist", "bits"]) fun _ _ _ _ _ _ us hl => match us, hl with | [_, _], _ => rfl⟩
  have F_law_bits := fun_mk (st := s_law_bits) l_law_bits c_law_bits k_law_bits
  have O_law_bits := ok_law_bits (P := P) (w := w) (base := base) F_law_bits T 
  have C_law_bits : Cal P w K mg base "_law_bits" 1 ["number", "count"] _ := ⟨_, _, O_law_bits, PySem.W.mg_of X G a_law_bits, k_law_bits, F_law_bits.binds (ps := ["number", "count"]) fun _ _ _ _ _ _ us hl => match us, hl with | [_, _], _ => rfl⟩
  have F_law_net_table := fun_mk (st := s_law_net_table) l_law_net_table c_law_net_table k_law_net_table
  have O_law_net_table := ok_law_net_table (P := P) (w := w) (base := base) F_law_net_table T C_law_ends C_law_bits
  have C_law_net_table : Cal P w K mg base "_law_net_table" 3 ["netlist"] _ := ⟨_, _, O_law_net_table, PySem.W.mg_of X G a_law_net_table, k_law_net_table, F_law_net_table.binds (ps := ["netlist"]) fun _ _ _ _ _ _ us hl => match us, hl with | [_], _ => rfl⟩
  have F_law_drawn := fun_mk (st := s_law_drawn) l_law_drawn c_law_drawn k_law_drawn
  have O_law_drawn := ok_law_drawn (P := P) (w := w) (base := base) F_law_drawn T C_law_parts C_law_far
  have C_law_drawn : Cal P w K mg base "_law_drawn" 2 ["script", "at", "inputs", "outputs", "states"] _ := ⟨_, _, O_law_drawn, PySem.W.mg_of X G a_law_drawn, k_law_drawn, F_law_drawn.binds (ps := ["script", "at", "inputs", "outputs", "states"]) fun _ _ _ _ _ _ us hl => match us, hl with | [_, _, _, _, _], _ => rfl⟩
  have F_law_renamed := fun_mk (st := s_law_renamed) l_law_renamed c_law_renamed k_law_renamed
  have O_law_renamed := ok_law_renamed (P := P) (w := w) (base := base) F_law_renamed T 
  have C_law_renamed : Cal P w K mg base "_law_renamed" 1 ["gates", "names"] _ := ⟨_, _, O_law_renamed, PySem.W.mg_of X G a_law_renamed, k_law_renamed, F_law_renamed.binds (ps := ["gates", "names"]) fun _ _ _ _ _ _ us hl => match us, hl with | [_, _], _ => rfl⟩
  have F_law_joined := fun_mk (st := s_law_joined) l_law_joined c_law_joined k_law_joined
  have O_law_joined := ok_law_joined (P := P) (w := w) (base := base) F_law_joined T C_law_renamed
  have C_law_joined : Cal P w K mg base "_law_joined" 2 ["first", "second"] _ := ⟨_, _, O_law_joined, PySem.W.mg_of X G a_law_joined, k_law_joined, F_law_joined.binds (ps := ["first", "second"]) fun _ _ _ _ _ _ us hl => match us, hl with | [_, _], _ => rfl⟩
  have F_law_same_netlist := fun_mk (st := s_law_same_netlist) l_law_same_netlist c_law_same_netlist k_law_same_netlist
  have O_law_same_netlist := ok_law_same_netlist (P := P) (w := w) (base := base) F_law_same_netlist T 
  have C_law_same_netlist : Cal P w K mg base "_law_same_netlist" 1 ["actual", "expected"] _ := ⟨_, _, O_law_same_netlist, PySem.W.mg_of X G a_law_same_netlist, k_law_same_netlist, F_law_same_netlist.binds (ps := ["actual", "expected"]) fun _ _ _ _ _ _ us hl => match us, hl with | [_, _], _ => rfl⟩
  have F_law_right_netlists := fun_mk (st := s_law_right_netlists) l_law_right_netlists c_law_right_netlists k_law_right_netlists
  have O_law_right_netlists := ok_law_right_netlists (P := P) (w := w) (base := base) F_law_right_netlists T C_law_refused C_law_joined C_join_netlists C_law_same_netlist C_law_net_table C_law_joined_tables
  have C_law_right_netlists : Cal P w K mg base "_law_right_netlists" 5 ["first", "second", "walk"] _ := ⟨_, _, O_law_right_netlists, PySem.W.mg_of X G a_law_right_netlists, k_law_right_netlists, F_law_right_netlists.binds (ps := ["first", "second", "walk"]) fun _ _ _ _ _ _ us hl => match us, hl with | [_, _, _], _ => rfl⟩
  have F_law_padded := fun_mk (st := s_law_padded) l_law_padded c_law_padded k_law_padded
  have O_law_padded := ok_law_padded (P := P) (w := w) (base := base) F_law_padded T 
  have C_law_padded : Cal P w K mg base "_law_padded" 1 ["netlist", "count"] _ := ⟨_, _, O_law_padded, PySem.W.mg_of X G a_law_padded, k_law_padded, F_law_padded.binds (ps := ["netlist", "count"]) fun _ _ _ _ _ _ us hl => match us, hl with | [_, _], _ => rfl⟩
  have F_law := fun_mk (st := s_law) l_law c_law k_law
  have O_law := ok_law (P := P) (w := w) (base := base) F_law T C_law_parts C_law_far C_law_netlist C_law_right_tables C_law_net_table C_law_drawn C_law_right_netlists C_law_padded
  exact O_law.imp spLaw_imp
theorem walk {l : PySem.W.OpenLaw} {q : Program} {loose : List Str} {XP : (Str → Option Value) → Heap → Prop} {YP : World → Heap → Prop} {d : DefRec} {K : Params → PySem.W.Frag} (hn : l.most = some 63) (hdf : d.params.defaults = [])
    (hY : ∀ (w : World) (h : Heap), YP w h → (K w.params).In h)
    (F : ∀ (w : World) (mg : Str → Option Value) (fa : Addr) (h : Heap), (K w.params).In h → h.Ns mainGlobals mg → mg d.name = some (.ref fa) →
      ∃ fd : FuncData, (∀ (s : Shared) (u : Value), BindsTo s fd ⟨[u], []⟩ [("script", u)]) ∧ ∀ base : Heap, (K w.params).In base → base.Ns mainGlobals mg → FnOk l.prog w (K w.params) mg base (L2.CX l.prog w) 6 fa fd ["script"] (spLaw (K w.params))) :
    PySem.W.WalkO q loose XP YP l.row.toRowW d [] (fun f vs => PySem.call f vs) :=
  L2.walk_of (n := 63) (k := 6) (x := "script") (CX := fun w => L2.CX l.prog w) (sp := fun w => spLaw (K w.params)) hn (by decide) hdf ⟨rfl, by decide, by decide⟩ hY F (fun _ _ a ns hl _ hS => ⟨a, ns, rfl, hS, hl, fun _ => rfl⟩) fun _ _ _ _ _ ⟨_, _, _, _, _, _, _, _, _, _, _, _, z⟩ => z
end G89
open PySem PySem.W PyProof.Rows in
set_option maxRecDepth 100000 in
set_option maxHeartbeats 0 in
theorem PySem.Challenge.cw_pinsalone_k89_joined_machines_holds : PySem.Challenge.rw_pinsalone_k89_joined_machines.Holds := by
  w_on; o_law; k_head; (case hw => w_witness2)
  k_fill
  refine G89.walk (l := PySem.Challenge.rw_pinsalone_k89_joined_machines) rfl rfl (fun w h Y => PySem.W.kIn_of Y) ?F
  case F =>
    intro w mg fa h KX G hmg
    refine' G89.all_mk KX G hmg ?a_numbered_names ?l_numbered_names ?c_numbered_names ?k_numbered_names ?a_renamed ?l_renamed ?c_renamed ?k_renamed ?a_renamed_gates ?l_renamed_gates ?c_renamed_gates ?k_renamed_gates ?a_second_names ?l_second_names ?c_second_names ?k_second_names ?a_letter_count ?l_letter_count ?c_letter_count ?k_letter_count ?a_state_count ?l_state_count ?c_state_count ?k_state_count ?a_step ?l_step ?c_step ?k_step ?a_check_gates ?l_check_gates ?c_check_gates ?k_check_gates ?a_join_netlists ?l_join_netlists ?c_join_netlists ?k_join_netlists ?a_join_tables ?l_join_tables ?c_join_tables ?k_join_tables ?a_law_far ?l_law_far ?c_law_far ?k_law_far ?a_law_parts ?l_law_parts ?c_law_parts ?k_law_parts ?a_law_is_integer ?l_law_is_integer ?c_law_is_integer ?k_law_is_integer ?a_law_bits ?l_law_bits ?c_law_bits ?k_law_bits ?a_law_gate ?l_law_gate ?c_law_gate ?k_law_gate ?a_law_netlist ?l_law_netlist ?c_law_netlist ?k_law_netlist ?a_law_gate_value ?l_law_gate_value ?c_law_gate_value ?k_law_gate_value ?a_law_ends ?l_law_ends ?c_law_ends ?k_law_ends ?a_law_net_table ?l_law_net_table ?c_law_net_table ?k_law_net_table ?a_law_same_netlist ?l_law_same_netlist ?c_law_same_netlist ?k_law_same_netlist ?a_law_same_table ?l_law_same_table ?c_law_same_table ?k_law_same_table ?a_law_joined_tables ?l_law_joined_tables ?c_law_joined_tables ?k_law_joined_tables ?a_law_drawn ?l_law_drawn ?c_law_drawn ?k_law_drawn ?a_law_padded ?l_law_padded ?c_law_padded ?k_law_padded ?a_law_renamed ?l_law_renamed ?c_law_renamed ?k_law_renamed ?a_law_joined ?l_law_joined ?c_law_joined ?k_law_joined ?a_law_refused ?l_law_refused ?c_law_refused ?k_law_refused ?a_law_right_netlists ?l_law_right_netlists ?c_law_right_netlists ?k_law_right_netlists ?a_law_right_tables ?l_law_right_tables ?c_law_right_tables ?k_law_right_tables ?a_law ?l_law ?c_law ?k_law ?n_bool ?n_enumerate ?n_int ?n_isinstance ?n_len ?n_list ?n_min ?n_range ?n_str ?n_sum ?n_tuple ?n_zip ?z_MOST_GATES ?z_MOST_LATCHES ?z_MOST_PAIRS ?z_MOST_STATES ?z_ROWS ?g_0 ?g_1 ?g_2 ?ec_0_0 ?ec_0_1 ?ec_0_2 ?ec_0_3 ?ec_0_4 ?ec_0_5 ?ec_0_6 ?ec_0_7 ?ex_0 ?kit_0_0 ?kit_0_1 ?ec_1_0 ?ec_1_1 ?ec_1_2 ?ec_1_3 ?ec_1_4 ?ec_1_5 ?ec_1_6 ?ec_1_7 ?ex_1 ?kit_1_0 ?kit_1_1 ?x_0 ?k_0 ?b_0 ?t_0 ?x_1 ?k_1 ?b_1 ?t_1
    (case a_numbered_names => k_is)
    (case l_numbered_names => k_is)
    (case c_numbered_names => k_is)
    (case k_numbered_names => k_is)
    (case a_renamed => k_is)
    (case l_renamed => k_is)
    (case c_renamed => k_is)
    (case k_renamed => k_is)
    (case a_renamed_gates => k_is)
    (case l_renamed_gates => k_is)
    (case c_renamed_gates => k_is)
    (case k_renamed_gates => k_is)
    (case a_second_names => k_is)
    (case l_second_names => k_is)
    (case c_second_names => k_is)
    (case k_second_names => k_is)
    (case a_letter_count => k_is)
    (case l_letter_count => k_is)
    (case c_letter_count => k_is)
    (case k_letter_count => k_is)
    (case a_state_count => k_is)
    (case l_state_count => k_is)
    (case c_state_count => k_is)
    (case k_state_count => k_is)
    (case a_step => k_is)
    (case l_step => k_is)
    (case c_step => k_is)
    (case k_step => k_is)
    (case a_check_gates => k_is)
    (case l_check_gates => k_is)
    (case c_check_gates => k_is)
    (case k_check_gates => k_is)
    (case a_join_netlists => k_is)
    (case l_join_netlists => k_is)
    (case c_join_netlists => k_is)
    (case k_join_netlists => k_is)
    (case a_join_tables => k_is)
    (case l_join_tables => k_is)
    (case c_join_tables => k_is)
    (case k_join_tables => k_is)
    (case a_law_far => k_is)
    (case l_law_far => k_is)
    (case c_law_far => k_is)
    (case k_law_far => k_is)
    (case a_law_parts => k_is)
    (case l_law_parts => k_is)
    (case c_law_parts => k_is)
    (case k_law_parts => k_is)
    (case a_law_is_integer => k_is)
    (case l_law_is_integer => k_is)
    (case c_law_is_integer => k_is)
    (case k_law_is_integer => k_is)
    (case a_law_bits => k_is)
    (case l_law_bits => k_is)
    (case c_law_bits => k_is)
    (case k_law_bits => k_is)
    (case a_law_gate => k_is)
    (case l_law_gate => k_is)
    (case c_law_gate => k_is)
    (case k_law_gate => k_is)
    (case a_law_netlist => k_is)
    (case l_law_netlist => k_is)
    (case c_law_netlist => k_is)
    (case k_law_netlist => k_is)
    (case a_law_gate_value => k_is)
    (case l_law_gate_value => k_is)
    (case c_law_gate_value => k_is)
    (case k_law_gate_value => k_is)
    (case a_law_ends => k_is)
    (case l_law_ends => k_is)
    (case c_law_ends => k_is)
    (case k_law_ends => k_is)
    (case a_law_net_table => k_is)
    (case l_law_net_table => k_is)
    (case c_law_net_table => k_is)
    (case k_law_net_table => k_is)
    (case a_law_same_netlist => k_is)
    (case l_law_same_netlist => k_is)
    (case c_law_same_netlist => k_is)
    (case k_law_same_netlist => k_is)
    (case a_law_same_table => k_is)
    (case l_law_same_table => k_is)
    (case c_law_same_table => k_is)
    (case k_law_same_table => k_is)
    (case a_law_joined_tables => k_is)
    (case l_law_joined_tables => k_is)
    (case c_law_joined_tables => k_is)
    (case k_law_joined_tables => k_is)
    (case a_law_drawn => k_is)
    (case l_law_drawn => k_is)
    (case c_law_drawn => k_is)
    (case k_law_drawn => k_is)
    (case a_law_padded => k_is)
    (case l_law_padded => k_is)
    (case c_law_padded => k_is)
    (case k_law_padded => k_is)
    (case a_law_renamed => k_is)
    (case l_law_renamed => k_is)
    (case c_law_renamed => k_is)
    (case k_law_renamed => k_is)
    (case a_law_joined => k_is)
    (case l_law_joined => k_is)
    (case c_law_joined => k_is)
    (case k_law_joined => k_is)
    (case a_law_refused => k_is)
    (case l_law_refused => k_is)
    (case c_law_refused => k_is)
    (case k_law_refused => k_is)
    (case a_law_right_netlists => k_is)
    (case l_law_right_netlists => k_is)
    (case c_law_right_netlists => k_is)
    (case k_law_right_netlists => k_is)
    (case a_law_right_tables => k_is)
    (case l_law_right_tables => k_is)
    (case c_law_right_tables => k_is)
    (case k_law_right_tables => k_is)
    (case a_law => k_is)
    (case l_law => k_is)
    (case c_law => k_is)
    (case k_law => k_is)
    (case n_bool => k_is)
    (case n_enumerate => k_is)
    (case n_int => k_is)
    (case n_isinstance => k_is)
    (case n_len => k_is)
    (case n_list => k_is)
    (case n_min => k_is)
    (case n_range => k_is)
    (case n_str => k_is)
    (case n_sum => k_is)
    (case n_tuple => k_is)
    (case n_zip => k_is)
    (case z_MOST_GATES => k_is)
    (case z_MOST_LATCHES => k_is)
    (case z_MOST_PAIRS => k_is)
    (case z_MOST_STATES => k_is)
    (case z_ROWS => k_is)
    (case g_0 => k_is)
    (case g_1 => k_is)
    (case g_2 => k_is)
    (case ec_0_0 => k_is)
    (case ec_0_1 => k_is)
    (case ec_0_2 => k_is)
    (case ec_0_3 => k_is)
    (case ec_0_4 => k_is)
    (case ec_0_5 => k_is)
    (case ec_0_6 => k_is)
    (case ec_0_7 => k_is)
    (case ex_0 => kts_exm)
    (case kit_0_0 => kit_is)
    (case kit_0_1 => kit_is)
    (case ec_1_0 => k_is)
    (case ec_1_1 => k_is)
    (case ec_1_2 => k_is)
    (case ec_1_3 => k_is)
    (case ec_1_4 => k_is)
    (case ec_1_5 => k_is)
    (case ec_1_6 => k_is)
    (case ec_1_7 => k_is)
    (case ex_1 => kts_exm)
    (case kit_1_0 => kit_is)
    (case kit_1_1 => kit_is)
    (case x_0 => k_exc)
    (case k_0 => k_is)
    (case b_0 => k_is)
    (case t_0 => k_is)
    (case x_1 => k_exc)
    (case k_1 => k_is)
    (case b_1 => k_is)
    (case t_1 => k_is)

