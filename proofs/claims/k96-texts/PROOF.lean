import PyProof.Rows.All
import Wide.All
import OpenK.AllK
import Wide.FinOn
import HandS.ForMost
import HandS.Exc
import HandS.TryOnly
import HandS.ExcOwn
import HandS.WordsExc
import HandS.IsInst
import HandS.Sort
import HandS.ExcIs
import PySem.Challenge.RW_pinsalone_k96_table_texts
import KE.GoesMore
import HandS.Iter
import KE.GoesEnum
import HandS.Style
import HandS.TupAny
import HandS.More
import HandS.Conv
import HandS.DictComp
import HandS.FStr
import HandS.Text
import HandS.Flt
import HandS.ExcInit
import HandS.ExcField
import HandS.Nested
import KE.KExcSuper
import HandS.Codes
import HandS.NoneIn
import KE.KxIndex
import HandS.HotCalls
import KE.KExcIs
set_option Elab.async false
set_option linter.all false
set_option maxRecDepth 100000
set_option maxHeartbeats 4000000
/-! Mirrors: results, representations, evaluation judgements -/
namespace Mw
open PySem L2

/-! ### results -/
inductive Res (α : Type) where
  | ok (a : α) | exc (c : Nat) (fs : List (Str × V)) | stuck
namespace Res
variable {α β γ : Type}
def bind : Res α → (α → Res β) → Res β
  | .ok a, f => f a
  | .exc c fs, _ => .exc c fs
  | .stuck, _ => .stuck
@[simp] theorem bind_ok (a : α) (f : α → Res β) : (Res.ok a).bind f = f a := rfl
@[simp] theorem bind_exc (c fs) (f : α → Res β) : (Res.exc c fs : Res α).bind f = .exc c fs := rfl
@[simp] theorem bind_stuck (f : α → Res β) : (Res.stuck : Res α).bind f = .stuck := rfl
def wp (m : Res α) (Q : α → Prop) (E : Nat → List (Str × V) → Prop) : Prop :=
  match m with
  | .ok a => Q a
  | .exc c fs => E c fs
  | .stuck => False
theorem wp_bind {m : Res α} {f : α → Res β} {Q E} (h : (m.bind f).wp Q E) : m.wp (fun a => (f a).wp Q E) E := by
  cases m <;> exact h
theorem wp_mono {m : Res α} {Q Q' : α → Prop} {E E' : Nat → List (Str × V) → Prop} (h : m.wp Q E) (hq : ∀ a, Q a → Q' a) (he : ∀ c fs, E c fs → E' c fs) : m.wp Q' E' := by
  cases m
  · exact hq _ h
  · exact he _ _ h
  · exact h
theorem wp_ok {a : α} {Q : α → Prop} {E} (h : Q a) : (Res.ok a).wp Q E := h
/-- the same, not opened by itself -/
@[irreducible] def _root_.Mw.Wp {α : Type} (m : Res α) (Q : α → Prop) (E : Nat → List (Str × V) → Prop) : Prop := m.wp Q E
theorem _root_.Mw.Wp.out {α : Type} {m : Res α} {Q : α → Prop} {E} (h : Mw.Wp m Q E) : m.wp Q E := by unfold Mw.Wp at h; exact h
theorem _root_.Mw.Wp.mk {α : Type} {m : Res α} {Q : α → Prop} {E} (h : m.wp Q E) : Mw.Wp m Q E := by unfold Mw.Wp; exact h
/-- no exception may leave -/
def nox : Res α → Res α
  | .exc _ _ => .stuck
  | m => m
@[simp] theorem nox_ok (a : α) : nox (.ok a) = .ok a := rfl
theorem wp_nox {m : Res α} {Q : α → Prop} {E E' : Nat → List (Str × V) → Prop} (h : m.nox.wp Q E) : m.wp Q E' := by
  cases m
  · exact h
  · exact h.elim
  · exact h
def ite (c : Res Bool) (a b : Res α) : Res α := c.bind fun k => if k = true then a else b
@[simp] theorem ite_true (a b : Res α) : ite (.ok true) a b = a := rfl
@[simp] theorem ite_false (a b : Res α) : ite (.ok false) a b = b := rfl
theorem ite_ok (k : Bool) (a b : Res α) : ite (.ok k) a b = if k = true then a else b := rfl
def bind2 (f : α → β → Res γ) (a : Res α) (b : Res β) : Res γ := a.bind fun x => b.bind fun y => f x y
@[simp] theorem bind2_ok (f : α → β → Res γ) (a : α) (b : β) : bind2 f (.ok a) (.ok b) = f a b := rfl
end Res

/-! ### representations -/
structure Rp (α : Type) where
  r : PySem.W.Frag → Hp → V → α → Prop
  mono : ∀ {K G G' v a}, Same G G' → r K G v a → r K G' v a

theorem same_rd {H H' : Hp} {a : Addr} {u : HO} (e : Same H H') (h : Rd H a u) : Rd H' a u := by
  rcases h with h | ⟨o, h⟩
  · exact Or.inl (e a _ h)
  · exact Or.inr ⟨o, e a _ h⟩
theorem same_l {K : PySem.W.Frag} {H H' : Hp} {a : Addr} {xs : List V} (e : Same H H') (h : SqL K H a xs) : SqL K H' a xs := by
  rcases h with h | h
  · exact Or.inl (same_rd e h)
  · exact Or.inr h
theorem same_t {K : PySem.W.Frag} {H H' : Hp} {a : Addr} {xs : List V} (e : Same H H') (h : SqT K H a xs) : SqT K H' a xs := by
  rcases h with h | h
  · exact Or.inl (same_rd e h)
  · exact Or.inr h
theorem same_new {H : Hp} {p : Addr} {o : HO} (h : H p = none) : Same H (upd H p o) := fun a u e => by
  rw [upd_ne (ne_of_none e h)]
  exact e
theorem same_upd {G H : Hp} {p : Addr} {o : HO} (e : Same G H) : Same (upd G p o) (upd H p o) := fun a u h => by
  by_cases q : a = p
  · subst q; rw [upd_same] at h ⊢; exact h
  · rw [upd_ne q] at h ⊢; exact e a u h
theorem same_updG {G H : Hp} {p : Addr} {o : HO} (e : Same G H) (hp : H p = some o) : Same (upd G p o) H := fun a u h => by
  by_cases q : a = p
  · subst q; rw [upd_same] at h; rw [hp]; exact h
  · rw [upd_ne q] at h; exact e a u h
/-- a cell that G doesn't know is written -/
theorem same_mut {G H : Hp} {p : Addr} {o : HO} (e : Same G H) (h : G p = none) : Same G (upd H p o) := fun a u ha => by
  rw [upd_ne (ne_of_none ha h)]
  exact e a u ha
theorem same_back {G H : Hp} {p : Addr} (e : Same G H) (h : H p = none) : G p = none := by
  cases h1 : G p with
  | none => rfl
  | some o => rw [e p o h1] at h; cases h

section
variable {α β γ : Type} {K : PySem.W.Frag} {G G' : Hp}
abbrev RLs (R : Rp α) (K : PySem.W.Frag) (G : Hp) : List V → List α → Prop := Paired (R.r K G)
theorem RLs.mono {R : Rp α} {vs : List V} {xs : List α} (e : Same G G') (h : RLs R K G vs xs) : RLs R K G' vs xs := Paired.mapP h fun _ _ q => R.mono e q
theorem paired_get {F : α → β → Prop} : ∀ {l₁ : List α} {l₂ : List β} {i : Nat} {a : α}, Paired F l₁ l₂ → l₁[i]? = some a → ∃ b, l₂[i]? = some b ∧ F a b
  | _, _, _, _, .nil, e => by simp at e
  | _, _, 0, _, .cons r _, e => by simp at e; subst e; exact ⟨_, rfl, r⟩
  | _, _, i + 1, _, .cons _ t, e => by
    obtain ⟨u, h1, h2⟩ := paired_get (i := i) t (by simpa using e)
    exact ⟨u, by simpa using h1, h2⟩
theorem paired_get' {F : α → β → Prop} : ∀ {l₁ : List α} {l₂ : List β} {i : Nat} {b : β}, Paired F l₁ l₂ → l₂[i]? = some b → ∃ a, l₁[i]? = some a ∧ F a b
  | _, _, _, _, .nil, e => by simp at e
  | _, _, 0, _, .cons r _, e => by simp at e; subst e; exact ⟨_, rfl, r⟩
  | _, _, i + 1, _, .cons _ t, e => by
    obtain ⟨u, h1, h2⟩ := paired_get' (i := i) t (by simpa using e)
    exact ⟨u, by simpa using h1, h2⟩
theorem paired_app {F : α → β → Prop} : ∀ {l₁ l₁' : List α} {l₂ l₂' : List β}, Paired F l₁ l₂ → Paired F l₁' l₂' → Paired F (l₁ ++ l₁') (l₂ ++ l₂')
  | _, _, _, _, .nil, s => s
  | _, _, _, _, .cons r t, s => .cons r (paired_app t s)
theorem paired_set {F : α → β → Prop} {x : α} {y : β} (r : F x y) : ∀ {xs : List α} {ys : List β} (i : Nat), Paired F xs ys → Paired F (xs.set i x) (ys.set i y)
  | _, _, _, .nil => .nil
  | _, _, 0, .cons _ t => .cons r t
  | _, _, i + 1, .cons q t => .cons q (paired_set r i t)
theorem paired_take {F : α → β → Prop} : ∀ {xs : List α} {us : List β} (n : Nat), Paired F xs us → Paired F (xs.take n) (us.take n)
  | _, _, 0, _ => .nil
  | _, _, _ + 1, .nil => .nil
  | _, _, n + 1, .cons r t => .cons r (paired_take n t)
theorem paired_drop {F : α → β → Prop} : ∀ {xs : List α} {us : List β} (n : Nat), Paired F xs us → Paired F (xs.drop n) (us.drop n)
  | _, _, 0, r => r
  | _, _, _ + 1, .nil => .nil
  | _, _, n + 1, .cons _ t => paired_drop n t
theorem paired_rev {F : α → β → Prop} {xs : List α} {us : List β} (h : Paired F xs us) : Paired F xs.reverse us.reverse := by
  induction h with
  | nil => exact .nil
  | cons r t ih => rw [List.reverse_cons, List.reverse_cons]; exact paired_app ih (.cons r .nil)
theorem paired_map {F : α → β → Prop} (f : β → α) (h : ∀ b, F (f b) b) : ∀ l : List β, Paired F (l.map f) l
  | [] => .nil
  | b :: l => .cons (h b) (paired_map f h l)
end

def zI : Rp Int := ⟨fun _ _ v a => v = .int a, fun _ h => h⟩
def rB : Rp Bool := ⟨fun _ _ v a => v = .bl a, fun _ h => h⟩
def rN : Rp Unit := ⟨fun _ _ v _ => v = .non, fun _ h => h⟩
def rS : Rp Str := ⟨fun _ _ v a => v = .str a, fun _ h => h⟩
def rO {α : Type} (R : Rp α) : Rp (Option α) := ⟨fun K G v o => match o with | none => v = .non | some a => v ≠ .non ∧ R.r K G v a, fun {K G G' v o} e h => by
  cases o with
  | none => exact h
  | some a => exact ⟨h.1, R.mono e h.2⟩⟩
def rL {α : Type} (R : Rp α) : Rp (List α) := ⟨fun K G v xs => ∃ p vs, v = .ref p ∧ SqL K G p vs ∧ RLs R K G vs xs, fun e ⟨p, vs, a, b, c⟩ => ⟨p, vs, a, same_l e b, c.mono e⟩⟩
/-- a tuple of any length -/
def rT {α : Type} (R : Rp α) : Rp (List α) := ⟨fun K G v xs => ∃ p vs, v = .ref p ∧ SqT K G p vs ∧ RLs R K G vs xs, fun e ⟨p, vs, a, b, c⟩ => ⟨p, vs, a, same_t e b, c.mono e⟩⟩
/-- lists of values that are told by a product -/
structure Rps (α : Type) where
  r : PySem.W.Frag → Hp → List V → α → Prop
  mono : ∀ {K G G' v a}, Same G G' → r K G v a → r K G' v a
def rs1 {α : Type} (R : Rp α) : Rps α := ⟨fun K G vs a => ∃ v, vs = [v] ∧ R.r K G v a, fun e ⟨v, h, q⟩ => ⟨v, h, R.mono e q⟩⟩
def rsC {α β : Type} (R : Rp α) (S : Rps β) : Rps (α × β) := ⟨fun K G vs a => ∃ v r, vs = v :: r ∧ R.r K G v a.1 ∧ S.r K G r a.2, fun e ⟨v, r, h, q, t⟩ => ⟨v, r, h, R.mono e q, S.mono e t⟩⟩
/-- a tuple of a fixed length -/
def rP {α : Type} (S : Rps α) : Rp α := ⟨fun K G v a => ∃ p vs, v = .ref p ∧ SqT K G p vs ∧ S.r K G vs a, fun e ⟨p, vs, a, b, c⟩ => ⟨p, vs, a, same_t e b, S.mono e c⟩⟩
abbrev rP2 {α β : Type} (R : Rp α) (S : Rp β) : Rp (α × β) := rP (rsC R (rs1 S))
abbrev rP3 {α β γ : Type} (R : Rp α) (S : Rp β) (T : Rp γ) : Rp (α × β × γ) := rP (rsC R (rsC S (rs1 T)))

/-- representations that don't look at the heap -/
def Sc {α : Type} (R : Rp α) : Prop := ∀ K G G' v a, R.r K G v a → R.r K G' v a
theorem sc_I : Sc zI := fun _ _ _ _ _ h => h
theorem sc_B : Sc rB := fun _ _ _ _ _ h => h
theorem sc_N : Sc rN := fun _ _ _ _ _ h => h
theorem sc_S : Sc rS := fun _ _ _ _ _ h => h
theorem sc_O {α : Type} {R : Rp α} (h : Sc R) : Sc (rO R) := fun K G G' v o q => by
  cases o with
  | none => exact q
  | some a => exact ⟨q.1, h K G G' v a q.2⟩

/-! ### states -/
abbrev Own := List (Addr × HO)
/-- an exception's own dict -/
def XdOk (fs : List (Str × V)) (d : Option Addr) (H : Hp) : Prop :=
  match fs with
  | [] => d = none
  | _ => ∃ a, d = some a ∧ H a = some (.xd fs)
structure Fm where
  F : Hp
  G0 : Hp
  E : XK
  cl : Nat → Addr
def Fm.xw (fm : Fm) (c : Nat) (fs : List (Str × V)) : Prop := ∀ H' d, Same fm.F H' → XdOk fs d H' → fm.E (.ref (fm.cl c)) d H'
/-- what is known -/
structure Kn (fm : Fm) (G : Hp) (O : Own) (H : Hp) : Prop where
  fr : Same fm.F H
  gh : Same G H
  own : ∀ p ∈ O, H p.1 = some p.2
/-- a pure step -/
structure Stp (G1 H1 G2 H2 : Hp) : Prop where
  hh : Same H1 H2
  gg : Same G1 G2
  gh : Same G2 H2
  old : ∀ b o, H1 b = some o → G2 b = G1 b
theorem Stp.refl {G H : Hp} (h : Same G H) : Stp G H G H := ⟨Same.refl _, Same.refl _, h, fun _ _ _ => rfl⟩
theorem Stp.trans {G1 H1 G2 H2 G3 H3 : Hp} (a : Stp G1 H1 G2 H2) (b : Stp G2 H2 G3 H3) : Stp G1 H1 G3 H3 :=
  ⟨a.hh.trans b.hh, a.gg.trans b.gg, b.gh, fun x o h => (b.old x o (a.hh x o h)).trans (a.old x o h)⟩
/-- the heap alone has grown -/
theorem Stp.grow {G H H' : Hp} (g : Same G H) (h : Same H H') : Stp G H G H' := ⟨h, Same.refl _, g.trans h, fun _ _ _ => rfl⟩
/-- a new object that stays as it is -/
theorem Stp.new {G H : Hp} {p : Addr} {o : HO} (g : Same G H) (h : H p = none) : Stp G H (upd G p o) (upd H p o) :=
  ⟨same_new h, same_new (same_back g h), same_upd g, fun b u e => upd_ne (ne_of_none e h)⟩
theorem Kn.stp {fm : Fm} {G1 H1 G2 H2 : Hp} {O : Own} (k : Kn fm G1 O H1) (s : Stp G1 H1 G2 H2) : Kn fm G2 O H2 :=
  ⟨k.fr.trans s.hh, s.gh, fun p hp => s.hh _ _ (k.own p hp)⟩

section
variable {α β γ δ : Type} {K : PySem.W.Frag} {fm : Fm} {σ : L2.St} {G G' H : Hp} {O : Own}
/-! ### what evaluates to what -/
def EvE (K : PySem.W.Frag) (fm : Fm) (te : TE) (σ : L2.St) (G : Hp) (O : Own) (R : Rp α) (m : Res α) : Prop :=
  ∀ G1 H1, Same G G1 → Kn fm G1 O H1 → ∀ Q : VK, m.wp (fun x => ∀ v G2 H2, Stp G1 H1 G2 H2 → R.r K G2 v x → Q v H2) fm.xw → te σ H1 Q
/-- a new list, not yet given away -/
def EvN (K : PySem.W.Frag) (fm : Fm) (te : TE) (σ : L2.St) (G : Hp) (O : Own) (R : Rp α) (m : Res (List α)) : Prop :=
  ∀ G1 H1, Same G G1 → Kn fm G1 O H1 → ∀ Q : VK, m.wp (fun xs => ∀ p vs G2 H2, Stp G1 H1 G2 H2 → H1 p = none → G2 p = none → H2 p = some (.lst vs) → RLs R K G2 vs xs → Q (.ref p) H2) fm.xw → te σ H1 Q
def EvT (fm : Fm) (tt : TT) (σ : L2.St) (G : Hp) (O : Own) (m : Res Bool) : Prop :=
  ∀ G1 H1, Same G G1 → Kn fm G1 O H1 → ∀ Q : Bool → Hp → Prop, m.wp (fun b => ∀ G2 H2, Stp G1 H1 G2 H2 → Q b H2) fm.xw → tt σ H1 Q
def EvA (K : PySem.W.Frag) (fm : Fm) (ta : TA) (σ : L2.St) (G : Hp) (O : Own) (R : Rps α) (m : Res α) : Prop :=
  ∀ G1 H1, Same G G1 → Kn fm G1 O H1 → ∀ Q : List V → Hp → Prop, m.wp (fun x => ∀ vs G2 H2, Stp G1 H1 G2 H2 → R.r K G2 vs x → Q vs H2) fm.xw → ta σ H1 Q

variable {te ta tb : TE} {R : Rp α} {S : Rp β} {T : Rp γ} {m : Res α} {n : Res β}
theorem EvE.mono (e : Same G G') (h : EvE K fm te σ G O R m) : EvE K fm te σ G' O R m := fun G1 H1 a => h G1 H1 (e.trans a)
theorem EvN.mono (e : Same G G') {m : Res (List α)} (h : EvN K fm te σ G O R m) : EvN K fm te σ G' O R m := fun G1 H1 a => h G1 H1 (e.trans a)
theorem EvT.mono {tt : TT} (e : Same G G') {m : Res Bool} (h : EvT fm tt σ G O m) : EvT fm tt σ G' O m := fun G1 H1 a => h G1 H1 (e.trans a)
theorem EvE.own {O' : Own} (h : EvE K fm te σ G O R m) (s : ∀ p ∈ O, p ∈ O') : EvE K fm te σ G O' R m := fun G1 H1 a k => h G1 H1 a ⟨k.fr, k.gh, fun p hp => k.own p (s p hp)⟩
theorem EvT.own {O' : Own} {tt : TT} {m : Res Bool} (h : EvT fm tt σ G O m) (s : ∀ p ∈ O, p ∈ O') : EvT fm tt σ G O' m := fun G1 H1 a k => h G1 H1 a ⟨k.fr, k.gh, fun p hp => k.own p (s p hp)⟩
/-- a new list given away -/
theorem EvN.ev {m : Res (List α)} (h : EvN K fm te σ G O R m) : EvE K fm te σ G O (rL R) m := fun G1 H1 a k Q q =>
  h G1 H1 a k Q (Res.wp_mono q (fun xs f p vs G2 H2 s hp gp hl r =>
    f (.ref p) (upd G2 p (.lst vs)) H2 ⟨s.hh, s.gg.trans (same_new gp), same_updG s.gh hl, fun b o e => by
        rw [upd_ne (ne_of_none e hp)]; exact s.old b o e⟩
      ⟨p, vs, rfl, .inl (.inl upd_same), r.mono (same_new gp)⟩) fun _ _ x => x)

/-! ### atoms -/
theorem e_var {i : Nat} {v : V} {x : α} (h : σ[i]? = some (some v)) (r : R.r K G v x) : EvE K fm (tVar i) σ G O R (.ok x) := fun G1 H1 a k Q q =>
  ⟨v, h, q v G1 H1 (Stp.refl k.gh) (R.mono a r)⟩
/-- a list of one's own, read as it stands -/
theorem e_c {v : V} {x : α} (r : ∀ G', R.r K G' v x) : EvE K fm (tC v) σ G O R (.ok x) := fun G1 H1 a k Q q => q v G1 H1 (Stp.refl k.gh) (r G1)
theorem e_int {i : Int} : EvE K fm (tC (.int i)) σ G O zI (.ok i) := e_c fun _ => rfl
theorem e_bl {b : Bool} : EvE K fm (tC (.bl b)) σ G O rB (.ok b) := e_c fun _ => rfl
theorem e_str {s : Str} : EvE K fm (tC (.str s)) σ G O rS (.ok s) := e_c fun _ => rfl
theorem e_non : EvE K fm (tC .non) σ G O rN (.ok ()) := e_c fun _ => rfl
theorem e_nonO : EvE K fm (tC .non) σ G O (rO R) (.ok none) := e_c fun _ => rfl
def someM {α : Type} (m : Res α) : Res (Option α) := m.bind fun x => .ok (some x)
@[simp] theorem someM_ok {α : Type} (x : α) : someM (.ok x) = .ok (some x) := rfl
/-- never None -/
def Nn (R : Rp α) : Prop := ∀ K G v x, R.r K G v x → v ≠ .non
theorem nn_I : Nn zI := fun _ _ v x h => by cases (show v = .int x from h); simp
theorem nn_B : Nn rB := fun _ _ v x h => by cases (show v = .bl x from h); simp
theorem nn_S : Nn rS := fun _ _ v x h => by cases (show v = .str x from h); simp
theorem nn_L : Nn (rL R) := fun _ _ v x ⟨p, vs, h, _⟩ => by cases h; simp
theorem nn_T : Nn (rT R) := fun _ _ v x ⟨p, vs, h, _⟩ => by cases h; simp
theorem nn_P {S : Rps α} : Nn (rP S) := fun _ _ v x ⟨p, vs, h, _⟩ => by cases h; simp
theorem e_some (n : Nn R) (h : EvE K fm te σ G O R m) : EvE K fm te σ G O (rO R) (someM m) := fun G1 H1 a k Q q =>
  h G1 H1 a k Q (Res.wp_mono (Res.wp_bind q) (fun x f v G2 H2 s r => f v G2 H2 s ⟨n _ _ _ _ r, r⟩) fun _ _ z => z)
/-- an Option that is known to be there -/
def getM {α : Type} : Option α → Res α
  | some a => .ok a
  | none => .stuck
@[simp] theorem getM_some {α : Type} (a : α) : getM (some a) = .ok a := rfl
theorem e_get {m : Res (Option α)} (h : EvE K fm te σ G O (rO R) m) : EvE K fm te σ G O R (m.bind getM) := fun G1 H1 a k Q q =>
  h G1 H1 a k Q (Res.wp_mono (Res.wp_bind q) (fun x f v G2 H2 s r => by
    cases x with
    | none => exact f.elim
    | some y => exact (show ∀ v G2 H2, Stp G1 H1 G2 H2 → R.r K G2 v y → Q v H2 from f) v G2 H2 s r.2) fun _ _ z => z)

/-! ### operators -/
theorem e_op {r : R2} {f : α → β → Res γ} (ha : EvE K fm ta σ G O R m) (hb : EvE K fm tb σ G O S n)
    (hr : ∀ G1 H1 x y u v, Kn fm G1 O H1 → R.r K G1 u x → S.r K G1 v y → ∀ Q : VK, (f x y).wp (fun z => ∀ w G2 H2, Stp G1 H1 G2 H2 → T.r K G2 w z → Q w H2) fm.xw → r u v H1 Q) :
    EvE K fm (tOp r ta tb) σ G O T (Res.bind2 f m n) := fun G1 H1 a k Q q =>
  ha G1 H1 a k _ (Res.wp_mono (Res.wp_bind q) (fun x q u G2 H2 s ru =>
    hb G2 H2 (a.trans s.gg) (k.stp s) _ (Res.wp_mono (Res.wp_bind q) (fun y q v G3 H3 s' rv =>
      hr G3 H3 x y u v ((k.stp s).stp s') (R.mono s'.gg ru) rv Q (Res.wp_mono q (fun z q w G4 H4 s'' rw => q w G4 H4 ((s.trans s').trans s'') rw) fun _ _ z => z)) fun _ _ z => z)) fun _ _ z => z)
theorem e_un {r : V → Hp → VK → Prop} {f : α → Res γ} (ha : EvE K fm ta σ G O R m)
    (hr : ∀ G1 H1 x u, Kn fm G1 O H1 → R.r K G1 u x → ∀ Q : VK, (f x).wp (fun z => ∀ w G2 H2, Stp G1 H1 G2 H2 → T.r K G2 w z → Q w H2) fm.xw → r u H1 Q) :
    EvE K fm (tUn r ta) σ G O T (m.bind f) := fun G1 H1 a k Q q =>
  ha G1 H1 a k _ (Res.wp_mono (Res.wp_bind q) (fun x q u G2 H2 s ru =>
    hr G2 H2 x u (k.stp s) ru Q (Res.wp_mono q (fun z q w G4 H4 s'' rw => q w G4 H4 (s.trans s'') rw) fun _ _ z => z)) fun _ _ z => z)

def addM : Res Int → Res Int → Res Int := Res.bind2 fun i j => .ok (i + j)
def subM : Res Int → Res Int → Res Int := Res.bind2 fun i j => .ok (i - j)
def inB (i : Int) : Bool := decide (-(2 ^ 64) < i) && decide (i < 2 ^ 64)
def mulF (i j : Int) : Res Int := if inB i || inB j then .ok (i * j) else .stuck
def mulM : Res Int → Res Int → Res Int := Res.bind2 mulF
def fdivF (i j : Int) : Res Int := if decide (0 < j) && decide (j < 1073741824) then .ok (i / j) else .stuck
def fdivM : Res Int → Res Int → Res Int := Res.bind2 fdivF
def modF (i j : Int) : Res Int := if decide (0 < j) then .ok (i % j) else .stuck
def modM : Res Int → Res Int → Res Int := Res.bind2 modF
def cpow (i j : Int) : Bool := decide (0 ≤ j) && decide (j ≤ 1000000) && decide (i.natAbs < 2 ^ 64)
def powF (i j : Int) : Res Int := if cpow i j then .ok (i ^ j.toNat) else .stuck
def powM : Res Int → Res Int → Res Int := Res.bind2 powF
def shlF (i j : Int) : Res Int := if cpow i j then .ok (i * 2 ^ j.toNat) else .stuck
def shlM : Res Int → Res Int → Res Int := Res.bind2 shlF
def shrF (i j : Int) : Res Int := if decide (0 ≤ j) then .ok (i / 2 ^ j.toNat) else .stuck
def shrM : Res Int → Res Int → Res Int := Res.bind2 shrF
def negM (a : Res Int) : Res Int := a.bind fun i => .ok (-i)
variable {a b : Res Int}
theorem e_add (ha : EvE K fm ta σ G O zI a) (hb : EvE K fm tb σ G O zI b) : EvE K fm (tOp (L2.rI0 fun i j => .int (i + j)) ta tb) σ G O zI (addM a b) :=
  e_op ha hb fun G1 H1 x y u v k ru rv Q q => ⟨x, y, ru, rv, q _ G1 H1 (Stp.refl k.gh) rfl⟩
theorem e_sub (ha : EvE K fm ta σ G O zI a) (hb : EvE K fm tb σ G O zI b) : EvE K fm (tOp (L2.rI0 fun i j => .int (i - j)) ta tb) σ G O zI (subM a b) :=
  e_op ha hb fun G1 H1 x y u v k ru rv Q q => ⟨x, y, ru, rv, q _ G1 H1 (Stp.refl k.gh) rfl⟩
theorem e_opI {C : Int → Int → Prop} {c : Int → Int → Bool} {g : Int → Int → Int} (hc : ∀ i j, c i j = true → C i j) (ha : EvE K fm ta σ G O zI a) (hb : EvE K fm tb σ G O zI b) :
    EvE K fm (tOp (L2.rI C fun i j => .int (g i j)) ta tb) σ G O zI (Res.bind2 (fun i j => if c i j = true then .ok (g i j) else .stuck) a b) :=
  e_op ha hb fun G1 H1 x y u v k ru rv Q q => by
    cases e : c x y with
    | true => simp only [e, if_true] at q; exact ⟨x, y, ru, rv, hc x y e, q _ G1 H1 (Stp.refl k.gh) rfl⟩
    | false => simp only [e] at q; exact q.elim
theorem e_mul (ha : EvE K fm ta σ G O zI a) (hb : EvE K fm tb σ G O zI b) : EvE K fm (tOp (L2.rI CMul fun i j => .int (i * j)) ta tb) σ G O zI (mulM a b) :=
  e_opI (c := fun i j => inB i || inB j) (fun i j h => by
    simp only [inB, Bool.or_eq_true, Bool.and_eq_true, decide_eq_true_eq] at h
    exact h) ha hb
theorem e_fdiv (ha : EvE K fm ta σ G O zI a) (hb : EvE K fm tb σ G O zI b) : EvE K fm (tOp (L2.rI CDiv fun i j => .int (i / j)) ta tb) σ G O zI (fdivM a b) :=
  e_opI (c := fun _ j => decide (0 < j) && decide (j < 1073741824)) (fun i j h => by
    simp only [Bool.and_eq_true, decide_eq_true_eq] at h
    exact h) ha hb
theorem e_mod (ha : EvE K fm ta σ G O zI a) (hb : EvE K fm tb σ G O zI b) : EvE K fm (tOp (L2.rI (fun _ j => 0 < j) fun i j => .int (i % j)) ta tb) σ G O zI (modM a b) :=
  e_opI (c := fun _ j => decide (0 < j)) (fun i j h => by simpa using h) ha hb
theorem cpow_ok {i j : Int} (h : cpow i j = true) : CPow i j := by
  simp only [cpow, Bool.and_eq_true, decide_eq_true_eq] at h
  exact ⟨h.1.1, h.1.2, h.2⟩
theorem e_pow (ha : EvE K fm ta σ G O zI a) (hb : EvE K fm tb σ G O zI b) : EvE K fm (tOp (L2.rI CPow fun i j => .int (i ^ j.toNat)) ta tb) σ G O zI (powM a b) := e_opI (c := cpow) (fun _ _ h => cpow_ok h) ha hb
theorem e_shl (ha : EvE K fm ta σ G O zI a) (hb : EvE K fm tb σ G O zI b) : EvE K fm (tOp (L2.rI CPow fun i j => .int (i * 2 ^ j.toNat)) ta tb) σ G O zI (shlM a b) := e_opI (c := cpow) (fun _ _ h => cpow_ok h) ha hb
theorem e_shr (ha : EvE K fm ta σ G O zI a) (hb : EvE K fm tb σ G O zI b) : EvE K fm (tOp (L2.rI (fun _ j => 0 ≤ j) fun i j => .int (i / 2 ^ j.toNat)) ta tb) σ G O zI (shrM a b) := e_opI (c := fun _ j => decide (0 ≤ j)) (fun i j h => by simpa using h) ha hb
theorem e_neg (ha : EvE K fm ta σ G O zI a) : EvE K fm (tUn (L2.rU fun i => .int (-i)) ta) σ G O zI (negM a) :=
  e_un ha fun G1 H1 x u k ru Q q => ⟨x, ru, q _ G1 H1 (Stp.refl k.gh) rfl⟩
end
end Mw

namespace Mw
open PySem L2
section
variable {α β γ δ : Type} {K : PySem.W.Frag} {fm : Fm} {σ : L2.St} {G G' H : Hp} {O : Own}
variable {te ta tb tc : TE} {R : Rp α} {S : Rp β} {T : Rp γ} {m : Res α} {n : Res β}

/-! ### comparisons of ints -/
def cmpM (p : Int → Int → Bool) : Res Int → Res Int → Res Bool := Res.bind2 fun i j => .ok (p i j)
abbrev ltM := cmpM fun i j => decide (i < j)
abbrev leM := cmpM fun i j => decide (i ≤ j)
abbrev gtM := cmpM fun i j => decide (j < i)
abbrev geM := cmpM fun i j => decide (j ≤ i)
@[simp] theorem cmpM_ok (p : Int → Int → Bool) (i j : Int) : cmpM p (.ok i) (.ok j) = .ok (p i j) := rfl
theorem e_cmp {p : Int → Int → Bool} {a b : Res Int} (ha : EvE K fm ta σ G O zI a) (hb : EvE K fm tb σ G O zI b) : EvE K fm (tOp (L2.rI0 fun i j => .bl (p i j)) ta tb) σ G O rB (cmpM p a b) :=
  e_op ha hb fun G1 H1 x y u v k ru rv Q q => ⟨x, y, ru, rv, q _ G1 H1 (Stp.refl k.gh) rfl⟩

/-! ### scalars: their values -/
structure Sr {α : Type} [DecidableEq α] (R : Rp α) where
  enc : α → V
  is : ∀ {K G v x}, R.r K G v x → v = enc x
  inj : ∀ {x y}, enc x = enc y → x = y
  sc : ∀ x y, scal (enc x) (enc y) = true
  fl : ∀ x, flatV (enc x) = true
  eq : ∀ x y, eqV (enc x) (enc y) = decide (x = y)
def srI : Sr zI := ⟨.int, fun h => h, fun h => by injection h, fun _ _ => rfl, fun _ => rfl, fun x y => by show (x == y) = _; rw [Bool.beq_eq_decide_eq]⟩
def srB : Sr rB := ⟨.bl, fun h => h, fun h => by injection h, fun _ _ => rfl, fun _ => rfl, fun x y => by show (x == y) = _; rw [Bool.beq_eq_decide_eq]⟩
def srS : Sr rS := ⟨.str, fun h => h, fun h => by injection h, fun _ _ => rfl, fun _ => rfl, fun x y => by show (x == y) = _; rw [Bool.beq_eq_decide_eq]⟩
def encO {α : Type} (e : α → V) : Option α → V
  | none => .non
  | some a => e a
def srOI : Sr (rO zI) := ⟨encO .int, fun {K G v x} h => by
    cases x with
    | none => exact h
    | some a => exact h.2, fun {x y} h => by
    cases x <;> cases y
    · rfl
    · cases h
    · cases h
    · injection h with h; rw [h], fun x y => by cases x <;> cases y <;> rfl, fun x => by cases x <;> rfl, fun x y => by
    cases x <;> cases y
    · rfl
    · rfl
    · rfl
    · rename_i a b
      show (a == b) = _
      rw [Bool.beq_eq_decide_eq]
      exact decide_eq_decide.mpr ⟨fun h => by rw [h], fun h => by injection h⟩⟩
def eqM {α : Type} [DecidableEq α] : Res α → Res α → Res Bool := Res.bind2 fun x y => .ok (decide (x = y))
def neM {α : Type} [DecidableEq α] : Res α → Res α → Res Bool := Res.bind2 fun x y => .ok (!decide (x = y))
@[simp] theorem eqM_ok {α : Type} [DecidableEq α] (x y : α) : eqM (.ok x) (.ok y) = .ok (decide (x = y)) := rfl
@[simp] theorem neM_ok {α : Type} [DecidableEq α] (x y : α) : neM (.ok x) (.ok y) = .ok (!decide (x = y)) := rfl
theorem e_eq [DecidableEq α] (s : Sr R) {n : Res α} (ha : EvE K fm ta σ G O R m) (hb : EvE K fm tb σ G O R n) : EvE K fm (tOp rEq ta tb) σ G O rB (eqM m n) :=
  e_op ha hb fun G1 H1 x y u v k ru rv Q q => by
    cases s.is ru; cases s.is rv
    exact ⟨s.sc x y, q _ G1 H1 (Stp.refl k.gh) (by
      show V.bl _ = V.bl _
      rw [decide_eq_decide.mpr ⟨s.inj, fun h => by rw [h]⟩])⟩
theorem e_ne [DecidableEq α] (s : Sr R) {n : Res α} (ha : EvE K fm ta σ G O R m) (hb : EvE K fm tb σ G O R n) : EvE K fm (tOp rNe ta tb) σ G O rB (neM m n) :=
  e_op ha hb fun G1 H1 x y u v k ru rv Q q => by
    cases s.is ru; cases s.is rv
    exact ⟨s.sc x y, q _ G1 H1 (Stp.refl k.gh) (by
      show V.bl _ = V.bl _
      rw [decide_eq_decide.mpr ⟨s.inj, fun h => by rw [h]⟩])⟩
/-- is None -/
def isNM {α : Type} (a : Res (Option α)) : Res Bool := a.bind fun x => .ok x.isNone
def notNM {α : Type} (a : Res (Option α)) : Res Bool := a.bind fun x => .ok x.isSome
@[simp] theorem isNM_ok {α : Type} (x : Option α) : isNM (.ok x) = .ok x.isNone := rfl
@[simp] theorem notNM_ok {α : Type} (x : Option α) : notNM (.ok x) = .ok x.isSome := rfl
theorem rO_none {R : Rp α} {v : V} {x : Option α} (h : (rO R).r K G v x) : decide (v = .non) = x.isNone := by
  cases x with
  | none => exact decide_eq_true h
  | some a => exact decide_eq_false h.1
theorem e_isN {a : Res (Option α)} (ha : EvE K fm ta σ G O (rO R) a) : EvE K fm (tOp (fun x y H Q => y = .non ∧ Q (.bl (decide (x = .non))) H) ta (tC .non)) σ G O rB (isNM a) := fun G1 H1 e k Q q =>
  ha G1 H1 e k _ (Res.wp_mono (Res.wp_bind q) (fun x q v G2 H2 s r => ⟨rfl, by rw [rO_none r]; exact q _ G2 H2 s rfl⟩) fun _ _ z => z)
theorem e_notN {a : Res (Option α)} (ha : EvE K fm ta σ G O (rO R) a) : EvE K fm (tOp (fun x y H Q => y = .non ∧ Q (.bl (!decide (x = .non))) H) ta (tC .non)) σ G O rB (notNM a) := fun G1 H1 e k Q q =>
  ha G1 H1 e k _ (Res.wp_mono (Res.wp_bind q) (fun x q v G2 H2 s r => ⟨rfl, by
    rw [rO_none r]
    exact q _ G2 H2 s (by show V.bl _ = V.bl _; cases x <;> rfl)⟩) fun _ _ z => z)

/-! ### == of nested data -/
structure Qd {α : Type} [DecidableEq α] (R : Rp α) where
  dat : α → PyData
  dp : ∀ {K G v x}, R.r K G v x → Dp K G v (dat x)
  lay : ∀ x, (dat x).canLay0 = true
  dep : Nat
  dle : ∀ x, (dat x).depth ≤ dep
  eqv : ∀ x y, PyData.eqv (dat x) (dat y) = decide (x = y)
  nn : Bool
  nnd : nn = true → ∀ x, dat x ≠ .none
structure Qds {α : Type} [DecidableEq α] (R : Rps α) where
  dat : α → List PyData
  dp : ∀ {K G v x}, R.r K G v x → DpAll K G v (dat x)
  lay : ∀ x, PyData.canLayAll0 (dat x) = true
  dep : Nat
  dle : ∀ x, PyData.depthAll (dat x) ≤ dep
  eqv : ∀ x y, PyData.eqvAll (dat x) (dat y) = decide (x = y)
def qI : Qd zI := ⟨.int, fun h => by cases h; exact .int _, fun _ => rfl, 0, fun _ => Nat.le_refl _, fun x y => by simp only [PyData.eqv]; rw [Bool.beq_eq_decide_eq], true, fun _ _ h => nomatch h⟩
def qB : Qd rB := ⟨.bool, fun h => by cases h; exact .bl _, fun _ => rfl, 0, fun _ => Nat.le_refl _, fun x y => by simp only [PyData.eqv]; rw [Bool.beq_eq_decide_eq], true, fun _ _ h => nomatch h⟩
theorem eqv_none_l {d : PyData} (h : d ≠ .none) : PyData.eqv .none d = false := by
  cases d <;> first | exact absurd rfl h | simp [PyData.eqv]
theorem eqv_none_r {d : PyData} (h : d ≠ .none) : PyData.eqv d .none = false := by
  cases d <;> first | exact absurd rfl h | simp [PyData.eqv]
def qO [DecidableEq α] (q : Qd R) (hn : q.nn = true) : Qd (rO R) where
  dat o := match o with | none => .none | some a => q.dat a
  dp {K G v x} h := by
    cases x with
    | none => cases (show v = .non from h); exact .non
    | some a => exact q.dp h.2
  lay o := by cases o; rfl; exact q.lay _
  dep := q.dep
  dle o := by cases o; exact Nat.zero_le _; exact q.dle _
  eqv x y := by
    cases x <;> cases y
    · simp [PyData.eqv]
    · rw [eqv_none_l (q.nnd hn _)]; simp
    · rw [eqv_none_r (q.nnd hn _)]; simp
    · show PyData.eqv (q.dat _) (q.dat _) = _
      rw [q.eqv]; exact decide_eq_decide.mpr ⟨fun h => by rw [h], fun h => by injection h⟩
  nn := false
  nnd h := nomatch h
theorem canLayAll_map [DecidableEq α] (q : Qd R) : ∀ xs : List α, PyData.canLayAll0 (xs.map q.dat) = true
  | [] => rfl
  | x :: xs => by rw [List.map_cons, PyData.canLayAll0, q.lay x, canLayAll_map q xs]; rfl
theorem depthAll_map [DecidableEq α] (q : Qd R) : ∀ xs : List α, PyData.depthAll (xs.map q.dat) ≤ q.dep
  | [] => Nat.zero_le _
  | x :: xs => by rw [List.map_cons, PyData.depthAll]; exact Nat.max_le.mpr ⟨q.dle x, depthAll_map q xs⟩
theorem eqvAll_map [DecidableEq α] (q : Qd R) : ∀ xs ys : List α, PyData.eqvAll (xs.map q.dat) (ys.map q.dat) = decide (xs = ys)
  | [], [] => by simp only [List.map_nil, PyData.eqvAll, decide_true]
  | [], _ :: _ => by simp [PyData.eqvAll]
  | _ :: _, [] => by simp [PyData.eqvAll]
  | x :: xs, y :: ys => by
    rw [List.map_cons, List.map_cons, PyData.eqvAll, q.eqv x y, eqvAll_map q xs ys, ← Bool.decide_and]
    exact decide_eq_decide.mpr (by rw [List.cons.injEq])
theorem dpAll_map [DecidableEq α] (q : Qd R) {vs : List V} {xs : List α} (h : RLs R K G vs xs) : DpAll K G vs (xs.map q.dat) := by
  induction h with
  | nil => exact .nil
  | cons r t ih => exact .cons (q.dp r) ih
def qL [DecidableEq α] (q : Qd R) : Qd (rL R) where
  dat xs := .list (xs.map q.dat)
  dp {K G v x} h := by
    obtain ⟨p, vs, e, h, r⟩ := h
    subst e
    exact .lst h (dpAll_map q r)
  lay xs := by rw [PyData.canLay0]; exact canLayAll_map q xs
  dep := q.dep + 1
  dle xs := by rw [PyData.depth]; exact Nat.succ_le_succ (depthAll_map q xs)
  eqv x y := by rw [PyData.eqv]; exact eqvAll_map q x y
  nn := true
  nnd _ _ h := nomatch h
def qT [DecidableEq α] (q : Qd R) : Qd (rT R) where
  dat xs := .tuple (xs.map q.dat)
  dp {K G v x} h := by
    obtain ⟨p, vs, e, h, r⟩ := h
    subst e
    exact .tup h (dpAll_map q r)
  lay xs := by rw [PyData.canLay0]; exact canLayAll_map q xs
  dep := q.dep + 1
  dle xs := by rw [PyData.depth]; exact Nat.succ_le_succ (depthAll_map q xs)
  eqv x y := by rw [PyData.eqv]; exact eqvAll_map q x y
  nn := true
  nnd _ _ h := nomatch h
def qs1 [DecidableEq α] (q : Qd R) : Qds (rs1 R) where
  dat x := [q.dat x]
  dp {K G v x} h := by
    obtain ⟨u, e, h⟩ := h
    subst e
    exact .cons (q.dp h) .nil
  lay x := by simp only [PyData.canLayAll0, q.lay, Bool.and_self]
  dep := q.dep
  dle x := by simp only [PyData.depthAll]; exact Nat.max_le.mpr ⟨q.dle x, Nat.zero_le _⟩
  eqv x y := by simp only [PyData.eqvAll, q.eqv, Bool.and_true]
def qsC [DecidableEq α] [DecidableEq β] {S : Rps β} (q : Qd R) (q' : Qds S) : Qds (rsC R S) where
  dat x := q.dat x.1 :: q'.dat x.2
  dp {K G v x} h := by
    obtain ⟨u, r, e, h, t⟩ := h
    subst e
    exact .cons (q.dp h) (q'.dp t)
  lay x := by simp only [PyData.canLayAll0, q.lay, q'.lay, Bool.and_self]
  dep := max q.dep q'.dep
  dle x := by
    simp only [PyData.depthAll]
    exact Nat.max_le.mpr ⟨Nat.le_trans (q.dle x.1) (Nat.le_max_left _ _), Nat.le_trans (q'.dle x.2) (Nat.le_max_right _ _)⟩
  eqv x y := by
    simp only [PyData.eqvAll, q.eqv, q'.eqv]
    rw [← Bool.decide_and]
    exact decide_eq_decide.mpr ⟨fun e => Prod.ext e.1 e.2, fun e => by rw [e]; exact ⟨rfl, rfl⟩⟩
def qP [DecidableEq α] {S : Rps α} (q : Qds S) : Qd (rP S) where
  dat x := .tuple (q.dat x)
  dp {K G v x} h := by
    obtain ⟨p, vs, e, h, r⟩ := h
    subst e
    exact .tup h (q.dp r)
  lay x := by rw [PyData.canLay0]; exact q.lay x
  dep := q.dep + 1
  dle x := by rw [PyData.depth]; exact Nat.succ_le_succ (q.dle x)
  eqv x y := by rw [PyData.eqv]; exact q.eqv x y
  nn := true
  nnd _ _ h := nomatch h
mutual
theorem Dp.same {G G' : Hp} (e : Same G G') : ∀ {v : V} {d : PyData}, Dp K G v d → Dp K G' v d
  | _, _, .non => .non
  | _, _, .bl b => .bl b
  | _, _, .int b => .int b
  | _, _, .str b => .str b
  | _, _, .lst h t => .lst (same_l e h) (Dp.sameAll e t)
  | _, _, .tup h t => .tup (same_t e h) (Dp.sameAll e t)
theorem Dp.sameAll {G G' : Hp} (e : Same G G') : ∀ {v : List V} {d : List PyData}, DpAll K G v d → DpAll K G' v d
  | _, _, .nil => .nil
  | _, _, .cons h t => .cons (Dp.same e h) (Dp.sameAll e t)
end
theorem Qd.shaped [DecidableEq α] (q : Qd R) (h : q.dep ≤ 64) (x : α) : SeqAt.shaped (q.dat x) = true := by
  simp only [SeqAt.shaped, q.lay, Bool.true_and]
  exact decide_eq_true (Nat.le_trans (q.dle x) h)
theorem e_eqD [DecidableEq α] (q : Qd R) (hd : q.dep ≤ 64) {n : Res α} (ha : EvE K fm ta σ G O R m) (hb : EvE K fm tb σ G O R n) : EvE K fm (tOp (rEqD K) ta tb) σ G O rB (eqM m n) :=
  e_op ha hb fun G1 H1 x y u v k ru rv Q h => ⟨_, _, Dp.same k.gh (q.dp ru), Dp.same k.gh (q.dp rv), q.shaped hd _, q.shaped hd _, h _ G1 H1 (Stp.refl k.gh) (by show V.bl _ = V.bl _; rw [q.eqv])⟩
theorem e_neD [DecidableEq α] (q : Qd R) (hd : q.dep ≤ 64) {n : Res α} (ha : EvE K fm ta σ G O R m) (hb : EvE K fm tb σ G O R n) : EvE K fm (tOp (rNeD K) ta tb) σ G O rB (neM m n) :=
  e_op ha hb fun G1 H1 x y u v k ru rv Q h => ⟨_, _, Dp.same k.gh (q.dp ru), Dp.same k.gh (q.dp rv), q.shaped hd _, q.shaped hd _, h _ G1 H1 (Stp.refl k.gh) (by show V.bl _ = V.bl _; rw [q.eqv])⟩

/-! ### in -/
def inM {α : Type} [DecidableEq α] : Res α → Res (List α) → Res Bool := Res.bind2 fun x xs => .ok (decide (x ∈ xs))
def ninM {α : Type} [DecidableEq α] : Res α → Res (List α) → Res Bool := Res.bind2 fun x xs => .ok (!decide (x ∈ xs))
@[simp] theorem inM_ok {α : Type} [DecidableEq α] (x : α) (xs) : inM (.ok x) (.ok xs) = .ok (decide (x ∈ xs)) := rfl
@[simp] theorem ninM_ok {α : Type} [DecidableEq α] (x : α) (xs) : ninM (.ok x) (.ok xs) = .ok (!decide (x ∈ xs)) := rfl
theorem sr_vals [DecidableEq α] (s : Sr R) {vs : List V} {xs : List α} (h : RLs R K G vs xs) : vs = xs.map s.enc := by
  induction h with
  | nil => rfl
  | cons r t ih => rw [ih, s.is r]; rfl
theorem sr_all [DecidableEq α] (s : Sr R) (xs : List α) : (xs.map s.enc).all flatV = true := by
  rw [List.all_eq_true]
  intro y hy
  obtain ⟨x, _, e⟩ := List.mem_map.mp hy
  rw [← e]; exact s.fl x
theorem sr_in [DecidableEq α] (s : Sr R) (x : α) : ∀ xs : List α, inV (s.enc x) (xs.map s.enc) = decide (x ∈ xs)
  | [] => by simp [inV]
  | y :: xs => by
    have ih := sr_in s x xs
    unfold inV at ih ⊢
    rw [List.map_cons, List.any_cons, ih, s.eq, ← Bool.decide_or]
    exact decide_eq_decide.mpr (by rw [List.mem_cons]; exact ⟨fun h => h.imp (fun e => e.symm) id, fun h => h.imp (fun e => e.symm) id⟩)
/-- what a list or tuple reads as -/
def Sq (K : PySem.W.Frag) (C : Rp (List α)) (R : Rp α) : Prop := ∀ G v xs, C.r K G v xs → ∃ p vs, v = .ref p ∧ (SqL K G p vs ∨ SqT K G p vs) ∧ RLs R K G vs xs
theorem sq_L : Sq K (rL R) R := fun G v xs ⟨p, vs, a, b, c⟩ => ⟨p, vs, a, .inl b, c⟩
theorem sq_T : Sq K (rT R) R := fun G v xs ⟨p, vs, a, b, c⟩ => ⟨p, vs, a, .inr b, c⟩
theorem same_q {H H' : Hp} {a : Addr} {xs : List V} (e : Same H H') (h : SqL K H a xs ∨ SqT K H a xs) : SqL K H' a xs ∨ SqT K H' a xs := h.imp (same_l e) (same_t e)
theorem e_in [DecidableEq α] (s : Sr R) {C : Rp (List α)} (c : Sq K C R) {n : Res (List α)} (ha : EvE K fm ta σ G O R m) (hb : EvE K fm tb σ G O C n) : EvE K fm (tOp (rIn K false) ta tb) σ G O rB (inM m n) :=
  e_op ha hb fun G1 H1 x y u v k ru rv Q q => by
    obtain ⟨p, vs, e, h, r⟩ := c _ _ _ rv
    subst e
    cases s.is ru; cases sr_vals s r
    exact ⟨p, _, rfl, same_q k.gh h, s.fl x, sr_all s y, q _ G1 H1 (Stp.refl k.gh) (by
      show V.bl (if false = true then _ else _) = V.bl _
      rw [if_neg Bool.false_ne_true, sr_in])⟩
theorem e_nin [DecidableEq α] (s : Sr R) {C : Rp (List α)} (c : Sq K C R) {n : Res (List α)} (ha : EvE K fm ta σ G O R m) (hb : EvE K fm tb σ G O C n) : EvE K fm (tOp (rIn K true) ta tb) σ G O rB (ninM m n) :=
  e_op ha hb fun G1 H1 x y u v k ru rv Q q => by
    obtain ⟨p, vs, e, h, r⟩ := c _ _ _ rv
    subst e
    cases s.is ru; cases sr_vals s r
    exact ⟨p, _, rfl, same_q k.gh h, s.fl x, sr_all s y, q _ G1 H1 (Stp.refl k.gh) (by
      show V.bl (if true = true then _ else _) = V.bl _
      rw [if_pos rfl, sr_in])⟩

/-! ### items -/
def optM {α : Type} : Option α → Res α
  | some a => .ok a
  | none => .stuck
@[simp] theorem optM_some {α : Type} (a : α) : optM (some a) = .ok a := rfl
def idxM {α : Type} : Res (List α) → Res Int → Res α := Res.bind2 fun xs i => optM (atI xs i)
@[simp] theorem idxM_ok {α : Type} (xs : List α) (i : Int) : idxM (.ok xs) (.ok i) = optM (atI xs i) := rfl
theorem paired_at {F : α → β → Prop} {xs : List α} {ys : List β} (h : Paired F xs ys) {i : Int} {y : β} (e : atI ys i = some y) : ∃ x, atI xs i = some x ∧ F x y := by
  unfold atI at e ⊢
  rw [Paired.length h]
  cases q : ixN ys.length i with
  | none => rw [q] at e; cases e
  | some j =>
    rw [q] at e
    exact paired_get' h e
theorem e_ixL {m : Res (List α)} {n : Res Int} (ha : EvE K fm ta σ G O (rL R) m) (hb : EvE K fm tb σ G O zI n) : EvE K fm (tOp (rIxL K) ta tb) σ G O R (idxM m n) :=
  e_op ha hb fun G1 H1 xs i u v k ru rv Q q => by
    obtain ⟨p, vs, e, h, r⟩ := ru
    subst e
    cases (show v = .int i from rv)
    cases ea : atI xs i with
    | none => rw [ea] at q; exact q.elim
    | some y =>
      rw [ea] at q
      obtain ⟨w, ew, rw'⟩ := paired_at r ea
      exact ⟨p, vs, i, w, rfl, rfl, same_l k.gh h, ew, q w G1 H1 (Stp.refl k.gh) rw'⟩
theorem e_ixT {m : Res (List α)} {n : Res Int} (ha : EvE K fm ta σ G O (rT R) m) (hb : EvE K fm tb σ G O zI n) : EvE K fm (tOp (rIxT K) ta tb) σ G O R (idxM m n) :=
  e_op ha hb fun G1 H1 xs i u v k ru rv Q q => by
    obtain ⟨p, vs, e, h, r⟩ := ru
    subst e
    cases (show v = .int i from rv)
    cases ea : atI xs i with
    | none => rw [ea] at q; exact q.elim
    | some y =>
      rw [ea] at q
      obtain ⟨w, ew, rw'⟩ := paired_at r ea
      exact ⟨p, vs, i, w, rfl, rfl, same_t k.gh h, ew, q w G1 H1 (Stp.refl k.gh) rw'⟩
/-- an item of a tuple of a fixed length -/
def Pj {α β : Type} (S : Rps α) (k : Nat) (R : Rp β) (f : α → β) : Prop := ∀ K G vs a, S.r K G vs a → ∃ v, vs[k]? = some v ∧ R.r K G v (f a)
theorem pj1 : Pj (rs1 R) 0 R (fun a => a) := fun K G vs a ⟨v, e, h⟩ => ⟨v, by rw [e]; rfl, h⟩
theorem pj0 {S : Rps β} : Pj (rsC R S) 0 R (fun a => a.1) := fun K G vs a ⟨v, r, e, h, t⟩ => ⟨v, by rw [e]; rfl, h⟩
theorem pjS {S : Rps β} {k : Nat} {f : β → γ} (h : Pj S k T f) : Pj (rsC R S) (k + 1) T (fun a => f a.2) := fun K G vs a ⟨v, r, e, _, t⟩ => by
  obtain ⟨w, ew, hw⟩ := h K G r a.2 t
  exact ⟨w, by rw [e]; simpa using ew, hw⟩
theorem e_proj {S : Rps α} {k : Nat} {f : α → β} {R : Rp β} (hp : Pj S k R f) (ha : EvE K fm ta σ G O (rP S) m) : EvE K fm (tOp (rIxT K) ta (tC (.int (k : Int)))) σ G O R (m.bind fun a => .ok (f a)) := fun G1 H1 e k' Q q =>
  ha G1 H1 e k' _ (Res.wp_mono (Res.wp_bind q) (fun x q v G2 H2 s r => by
    obtain ⟨p, vs, ev, h, rs⟩ := r
    obtain ⟨w, ew, hw⟩ := hp K G2 vs x rs
    exact ⟨p, vs, (k : Int), w, ev, rfl, same_t s.gh h, L2.atI_nat ew, q w G2 H2 s hw⟩) fun _ _ z => z)

/-! ### argument lists, displays -/
def pairM {α β : Type} : Res α → Res β → Res (α × β) := Res.bind2 fun x y => .ok (x, y)
@[simp] theorem pairM_ok {α β : Type} (x : α) (y : β) : pairM (.ok x) (.ok y) = .ok (x, y) := rfl
theorem a_one (h : EvE K fm te σ G O R m) : EvA K fm (tCons te tNil) σ G O (rs1 R) m := fun G1 H1 e k Q q =>
  h G1 H1 e k _ (Res.wp_mono q (fun x f v G2 H2 s r => f [v] G2 H2 s ⟨v, rfl, r⟩) fun _ _ z => z)
theorem a_cons {S : Rps β} {tr : TA} (h : EvE K fm te σ G O R m) (hr : EvA K fm tr σ G O S n) : EvA K fm (tCons te tr) σ G O (rsC R S) (pairM m n) := fun G1 H1 e k Q q =>
  h G1 H1 e k _ (Res.wp_mono (Res.wp_bind q) (fun x q v G2 H2 s r =>
    hr G2 H2 (e.trans s.gg) (k.stp s) _ (Res.wp_mono (Res.wp_bind q) (fun y q vs G3 H3 s' r' => q (v :: vs) G3 H3 (s.trans s') ⟨v, vs, rfl, R.mono s'.gg r, r'⟩) fun _ _ z => z)) fun _ _ z => z)
/-- n items of one kind -/
def rsL {α : Type} (n : Nat) (R : Rp α) : Rps (List α) := ⟨fun K G vs xs => RLs R K G vs xs ∧ vs.length = n, fun e ⟨a, b⟩ => ⟨a.mono e, b⟩⟩
def consM {α : Type} : Res α → Res (List α) → Res (List α) := Res.bind2 fun x xs => .ok (x :: xs)
@[simp] theorem consM_ok {α : Type} (x : α) (xs) : consM (.ok x) (.ok xs) = .ok (x :: xs) := rfl
theorem l_nil : EvA K fm tNil σ G O (rsL 0 R) (.ok []) := fun G1 H1 e k Q q => q [] G1 H1 (Stp.refl k.gh) ⟨.nil, rfl⟩
theorem l_cons {tr : TA} {i : Nat} {n : Res (List α)} (h : EvE K fm te σ G O R m) (hr : EvA K fm tr σ G O (rsL i R) n) : EvA K fm (tCons te tr) σ G O (rsL (i + 1) R) (consM m n) := fun G1 H1 e k Q q =>
  h G1 H1 e k _ (Res.wp_mono (Res.wp_bind q) (fun x q v G2 H2 s r =>
    hr G2 H2 (e.trans s.gg) (k.stp s) _ (Res.wp_mono (Res.wp_bind q) (fun y q vs G3 H3 s' r' => q (v :: vs) G3 H3 (s.trans s') ⟨.cons (R.mono s'.gg r) r'.1, by rw [List.length_cons, r'.2]⟩) fun _ _ z => z)) fun _ _ z => z)
theorem e_lst {t : TA} {i : Nat} {n : Res (List α)} (h : EvA K fm t σ G O (rsL i R) n) (hi : i ≤ sizeLine) : EvN K fm (tLst t) σ G O R n := fun G1 H1 e k Q q =>
  h G1 H1 e k _ (Res.wp_mono q (fun xs f vs G2 H2 s r => ⟨by rw [r.2]; exact hi, fun p hp =>
    f p vs G2 (upd H2 p (.lst vs)) (s.trans (Stp.grow s.gh (same_new hp))) (same_back s.hh hp) (same_back s.gh hp) upd_same r.1⟩) fun _ _ z => z)
/-- how many values a list has -/
def Ln {α : Type} (S : Rps α) (n : Nat) : Prop := ∀ K G vs a, S.r K G vs a → vs.length = n
theorem ln1 : Ln (rs1 R) 1 := fun K G vs a ⟨v, e, _⟩ => by rw [e]; rfl
theorem lnC {S : Rps β} {n : Nat} (h : Ln S n) : Ln (rsC R S) (n + 1) := fun K G vs a ⟨v, r, e, _, t⟩ => by rw [e, List.length_cons, h K G r a.2 t]
theorem e_tup {S : Rps α} {t : TA} {i : Nat} (l : Ln S i) (h : EvA K fm t σ G O S m) (hi : i ≤ sizeLine) : EvE K fm (tTup t) σ G O (rP S) m := fun G1 H1 e k Q q =>
  h G1 H1 e k _ (Res.wp_mono q (fun x f vs G2 H2 s r => ⟨by rw [l K G2 vs x r]; exact hi, fun p hp =>
    f (.ref p) (upd G2 p (.tup vs)) (upd H2 p (.tup vs)) (s.trans (Stp.new s.gh hp)) ⟨p, vs, rfl, .inl (.inl upd_same), S.mono (same_new (same_back s.gh hp)) r⟩⟩) fun _ _ z => z)
/-- a display of a tuple whose items are of one kind -/
theorem e_tupT {t : TA} {i : Nat} {n : Res (List α)} (h : EvA K fm t σ G O (rsL i R) n) (hi : i ≤ sizeLine) : EvE K fm (tTup t) σ G O (rT R) n := fun G1 H1 e k Q q =>
  h G1 H1 e k _ (Res.wp_mono q (fun x f vs G2 H2 s r => ⟨by rw [r.2]; exact hi, fun p hp =>
    f (.ref p) (upd G2 p (.tup vs)) (upd H2 p (.tup vs)) (s.trans (Stp.new s.gh hp)) ⟨p, vs, rfl, .inl (.inl upd_same), r.1.mono (same_new (same_back s.gh hp))⟩⟩) fun _ _ z => z)

/-! ### calls of defs -/
/-- what a def promises: the representation of its arguments, of its answer, its mirror -/
def spP {α β : Type} (K : PySem.W.Frag) (cl : Nat → Addr) (S : Rps α) (R : Rp β) (f : α → Res β) : Sp := fun vs H Q E => ∃ G a, Same G H ∧ S.r K G vs a ∧
  Wp (f a) (fun y => ∀ v G' H', Stp G H G' H' → R.r K G' v y → Q v H') (fun c fs => ∀ H' d, Same H H' → XdOk fs d H' → E (.ref (cl c)) d H')
theorem e_call {S : Rps α} {f : α → Res β} {R : Rp β} {t : TA} (h : EvA K fm t σ G O S m) : EvE K fm (tCall (spP K fm.cl S R f) [] fm.E t) σ G O R (m.bind f) := fun G1 H1 e k Q q =>
  h G1 H1 e k _ (Res.wp_mono (Res.wp_bind q) (fun x q vs G2 H2 s r => ⟨G2, x, s.gh, by rw [List.append_nil]; exact r,
    .mk (Res.wp_mono q (fun y q v G3 H3 s' rv => q v G3 H3 (s.trans s') rv) fun c fs z H' d a b => z H' d ((k.stp s).fr.trans a) b)⟩) fun _ _ z => z)
/-- a call where no exception may leave -/
theorem e_call0 {S : Rps α} {f : α → Res β} {R : Rp β} {t : TA} (h : EvA K fm t σ G O S m) : EvE K fm (tCall (spP K fm.cl S R f) [] E0 t) σ G O R (m.bind fun a => (f a).nox) := fun G1 H1 e k Q q =>
  h G1 H1 e k _ (Res.wp_mono (Res.wp_bind q) (fun x q vs G2 H2 s r => ⟨G2, x, s.gh, by rw [List.append_nil]; exact r,
    .mk (Res.wp_mono (Res.wp_nox (E' := fun _ _ => False) q) (fun y q v G3 H3 s' rv => q v G3 H3 (s.trans s') rv) fun c fs z => z.elim)⟩) fun _ _ z => z)

/-! ### built-ins -/
theorem e_cb {S : Rps α} {r : List V → Hp → VK → Prop} {f : α → Res γ} {t : TA} (h : EvA K fm t σ G O S m)
    (hr : ∀ G1 H1 x vs, Kn fm G1 O H1 → S.r K G1 vs x → ∀ Q : VK, (f x).wp (fun z => ∀ w G2 H2, Stp G1 H1 G2 H2 → T.r K G2 w z → Q w H2) fm.xw → r vs H1 Q) : EvE K fm (tCB r t) σ G O T (m.bind f) := fun G1 H1 e k Q q =>
  h G1 H1 e k _ (Res.wp_mono (Res.wp_bind q) (fun x q vs G2 H2 s rs =>
    hr G2 H2 x vs (k.stp s) rs Q (Res.wp_mono q (fun z q w G4 H4 s'' rw => q w G4 H4 (s.trans s'') rw) fun _ _ z => z)) fun _ _ z => z)
theorem n_cb {S : Rps α} {r : List V → Hp → VK → Prop} {f : α → Res (List γ)} {t : TA} (h : EvA K fm t σ G O S m)
    (hr : ∀ G1 H1 x vs, Kn fm G1 O H1 → S.r K G1 vs x → ∀ Q : VK, (f x).wp (fun xs => ∀ p vs G2 H2, Stp G1 H1 G2 H2 → H1 p = none → G2 p = none → H2 p = some (.lst vs) → RLs T K G2 vs xs → Q (.ref p) H2) fm.xw → r vs H1 Q) : EvN K fm (tCB r t) σ G O T (m.bind f) := fun G1 H1 e k Q q =>
  h G1 H1 e k _ (Res.wp_mono (Res.wp_bind q) (fun x q vs G2 H2 s rs =>
    hr G2 H2 x vs (k.stp s) rs Q (Res.wp_mono q (fun z q p w G4 H4 s'' hp gp hl rw => q p w G4 H4 (s.trans s'') (same_back s.hh hp) gp hl rw) fun _ _ z => z)) fun _ _ z => z)
abbrev rLen (K : PySem.W.Frag) : List V → Hp → VK → Prop := fun xs H Q => ∃ x n, xs = [x] ∧ LenV K x H n ∧ Q (.int n) H
def lenM {α : Type} (a : Res (List α)) : Res Int := a.bind fun xs => .ok (xs.length : Int)
@[simp] theorem lenM_ok {α : Type} (xs : List α) : lenM (.ok xs) = .ok (xs.length : Int) := rfl
theorem e_len {C : Rp (List α)} (c : Sq K C R) {m : Res (List α)} (h : EvE K fm te σ G O C m) : EvE K fm (tCB (rLen K) (tCons te tNil)) σ G O zI (lenM m) :=
  e_cb (a_one h) fun G1 H1 x vs k ⟨v, ev, r⟩ Q q => by
    subst ev
    obtain ⟨p, vs, e, h, r'⟩ := c _ _ _ r
    subst e
    refine ⟨_, x.length, rfl, ?_, q _ G1 H1 (Stp.refl k.gh) rfl⟩
    rw [← Paired.length r']
    exact h.imp (fun h => ⟨vs, same_l k.gh h, rfl⟩) fun h => ⟨vs, same_t k.gh h, rfl⟩
/-- the length of a fixed tuple -/
theorem e_lenP {S : Rps α} {i : Nat} (l : Ln S i) (h : EvE K fm te σ G O (rP S) m) : EvE K fm (tCB (rLen K) (tCons te tNil)) σ G O zI (m.bind fun _ => .ok (i : Int)) :=
  e_cb (a_one h) fun G1 H1 x vs k ⟨v, ev, p, ws, e, h, r⟩ Q q => by
    subst ev; subst e
    refine ⟨_, i, rfl, ?_, q _ G1 H1 (Stp.refl k.gh) rfl⟩
    rw [← l _ _ _ _ r]
    exact .inr ⟨ws, same_t k.gh h, rfl⟩
/-- list(..) -/
abbrev rLi (K : PySem.W.Frag) : List V → Hp → VK → Prop := fun xs H Q => ∃ p ys, xs = [.ref p] ∧ (SqL K H p ys ∨ SqT K H p ys) ∧ ∀ l, H l = none → Q (.ref l) (upd H l (.lst ys))
theorem n_list {C : Rp (List α)} (c : Sq K C R) {m : Res (List α)} (h : EvE K fm te σ G O C m) : EvN K fm (tCB (rLi K) (tCons te tNil)) σ G O R (m.bind .ok) :=
  n_cb (a_one h) fun G1 H1 x vs k ⟨v, ev, r⟩ Q q => by
    subst ev
    obtain ⟨p, vs, e, h, r'⟩ := c _ _ _ r
    subst e
    exact ⟨p, vs, rfl, same_q k.gh h, fun l hl => q l vs G1 _ (Stp.grow k.gh (same_new hl)) hl (same_back k.gh hl) upd_same r'⟩
/-- tuple(list) -/
abbrev rTu (K : PySem.W.Frag) : List V → Hp → VK → Prop := fun xs H Q => ∃ p ys, xs = [.ref p] ∧ ((SqL K H p ys ∧ ∀ l, H l = none → Q (.ref l) (upd H l (.tup ys))) ∨ (SqT K H p ys ∧ Q (.ref p) H))
theorem e_tupleL {m : Res (List α)} (h : EvE K fm te σ G O (rL R) m) : EvE K fm (tCB (rTu K) (tCons te tNil)) σ G O (rT R) (m.bind .ok) :=
  e_cb (a_one h) fun G1 H1 x vs k ⟨v, ev, r⟩ Q q => by
    subst ev
    obtain ⟨p, vs, e, h, r⟩ := r
    subst e
    exact ⟨p, vs, rfl, .inl ⟨same_l k.gh h, fun l hl => q _ _ _ (Stp.new k.gh hl) ⟨l, vs, rfl, .inl (.inl upd_same), r.mono (same_new (same_back k.gh hl))⟩⟩⟩
/-- int(n), int(flag) -/
abbrev rInt : List V → Hp → VK → Prop := fun xs H Q => (∃ i, xs = [.int i] ∧ Q (.int i) H) ∨ ∃ k, xs = [.bl k] ∧ Q (.int (if k then 1 else 0)) H
theorem e_intI {a : Res Int} (h : EvE K fm te σ G O zI a) : EvE K fm (tCB rInt (tCons te tNil)) σ G O zI (a.bind .ok) :=
  e_cb (a_one h) fun G1 H1 x vs k ⟨v, ev, r⟩ Q q => by
    subst ev; cases (show v = .int x from r)
    exact .inl ⟨x, rfl, q _ G1 H1 (Stp.refl k.gh) rfl⟩
def b2iM (a : Res Bool) : Res Int := a.bind fun b => .ok (if b then 1 else 0)
@[simp] theorem b2iM_ok (b : Bool) : b2iM (.ok b) = .ok (if b then 1 else 0) := rfl
theorem e_intB {a : Res Bool} (h : EvE K fm te σ G O rB a) : EvE K fm (tCB rInt (tCons te tNil)) σ G O zI (b2iM a) :=
  e_cb (a_one h) fun G1 H1 x vs k ⟨v, ev, r⟩ Q q => by
    subst ev; cases (show v = .bl x from r)
    exact .inr ⟨x, rfl, q _ G1 H1 (Stp.refl k.gh) rfl⟩
theorem rls_enc {enc : α → V} (h : ∀ {K G v x}, R.r K G v x → v = enc x) {vs : List V} {xs : List α} (r : RLs R K G vs xs) : vs = xs.map enc := by
  induction r with
  | nil => rfl
  | cons r t ih => rw [ih, h r]; rfl
def sumM (a : Res (List Int)) : Res Int := a.bind fun xs => .ok xs.sum
@[simp] theorem sumM_ok (xs) : sumM (.ok xs) = .ok xs.sum := rfl
theorem e_sum {m : Res (List Int)} (h : EvE K fm te σ G O (rL zI) m) : EvE K fm (tCB (rSum K) (tCons te tNil)) σ G O zI (sumM m) :=
  e_cb (a_one h) fun G1 H1 x vs k ⟨v, ev, p, ws, e, h, r⟩ Q q => by
    subst ev; subst e
    cases rls_enc (R := zI) (enc := V.int) (fun h => h) r
    exact ⟨p, x, rfl, same_l k.gh h, q _ G1 H1 (Stp.refl k.gh) rfl⟩
def anyM (a : Res (List Bool)) : Res Bool := a.bind fun xs => .ok (xs.any id)
def allM (a : Res (List Bool)) : Res Bool := a.bind fun xs => .ok (xs.all id)
@[simp] theorem anyM_ok (xs) : anyM (.ok xs) = .ok (xs.any id) := rfl
@[simp] theorem allM_ok (xs) : allM (.ok xs) = .ok (xs.all id) := rfl
theorem e_any {m : Res (List Bool)} (h : EvE K fm te σ G O (rL rB) m) : EvE K fm (tCB (rAny K) (tCons te tNil)) σ G O rB (anyM m) :=
  e_cb (a_one h) fun G1 H1 x vs k ⟨v, ev, p, ws, e, h, r⟩ Q q => by
    subst ev; subst e
    cases rls_enc (R := rB) (enc := V.bl) (fun h => h) r
    exact ⟨p, x, rfl, same_l k.gh h, q _ G1 H1 (Stp.refl k.gh) rfl⟩
theorem e_all {m : Res (List Bool)} (h : EvE K fm te σ G O (rL rB) m) : EvE K fm (tCB (rAll K) (tCons te tNil)) σ G O rB (allM m) :=
  e_cb (a_one h) fun G1 H1 x vs k ⟨v, ev, p, ws, e, h, r⟩ Q q => by
    subst ev; subst e
    cases rls_enc (R := rB) (enc := V.bl) (fun h => h) r
    exact ⟨p, x, rfl, same_l k.gh h, q _ G1 H1 (Stp.refl k.gh) rfl⟩

/-! ### lists: +, *, slices -/
def cutL {α : Type} (xs : List α) (lo hi : Option Int) : List α := (xs.drop (HT.sIx xs.length 0 lo)).take (HT.sIx xs.length xs.length hi - HT.sIx xs.length 0 lo)
theorem paired_cut {F : V → β → Prop} {vs : List V} {xs : List β} (h : Paired F vs xs) (lo hi : Option Int) : Paired F (cutV vs lo hi) (cutL xs lo hi) := by
  unfold cutV cutL
  rw [Paired.length h]
  exact paired_take _ (paired_drop _ h)
def EvO (fm : Fm) (to : TO) (σ : L2.St) (G : Hp) (O : Own) (m : Res (Option Int)) : Prop :=
  ∀ G1 H1, Same G G1 → Kn fm G1 O H1 → ∀ Q : Option Int → Hp → Prop, m.wp (fun x => ∀ G2 H2, Stp G1 H1 G2 H2 → Q x H2) fm.xw → to σ H1 Q
theorem o_none : EvO fm tNoPart σ G O (.ok none) := fun G1 H1 e k Q q => q G1 H1 (Stp.refl k.gh)
theorem o_some {a : Res Int} (h : EvE K fm te σ G O zI a) : EvO fm (tPart te) σ G O (someM a) := fun G1 H1 e k Q q =>
  h G1 H1 e k _ (Res.wp_mono (Res.wp_bind q) (fun x q v G2 H2 s r => ⟨x, r, q G2 H2 s⟩) fun _ _ z => z)
def sliceM {α : Type} (m : Res (List α)) (lo hi : Res (Option Int)) : Res (List α) := m.bind fun xs => lo.bind fun l => hi.bind fun h => .ok (cutL xs l h)
@[simp] theorem sliceM_ok {α : Type} (xs : List α) (l h) : sliceM (.ok xs) (.ok l) (.ok h) = .ok (cutL xs l h) := rfl
theorem n_slice {tl th : TO} {m : Res (List α)} {lo hi : Res (Option Int)} (h : EvE K fm te σ G O (rL R) m) (h1 : EvO fm tl σ G O lo) (h2 : EvO fm th σ G O hi) : EvN K fm (tSl (rSlL K) te tl th) σ G O R (sliceM m lo hi) := fun G1 H1 e k Q q =>
  h G1 H1 e k _ (Res.wp_mono (Res.wp_bind q) (fun xs q v G2 H2 s r =>
    h1 G2 H2 (e.trans s.gg) (k.stp s) _ (Res.wp_mono (Res.wp_bind q) (fun l q G3 H3 s' =>
      h2 G3 H3 ((e.trans s.gg).trans s'.gg) ((k.stp s).stp s') _ (Res.wp_mono (Res.wp_bind q) (fun hh q G4 H4 s'' => by
        obtain ⟨p, vs, ev, hq, rs⟩ := r
        have ss := (s.trans s').trans s''
        exact ⟨p, vs, ev, same_l ((s'.gg.trans s''.gg).trans ss.gh) hq, fun p' hp => q p' _ G4 _ (ss.trans (Stp.grow ss.gh (same_new hp))) (same_back ss.hh hp) (same_back ss.gh hp) upd_same (paired_cut (rs.mono (s'.gg.trans s''.gg)) _ _)⟩) fun _ _ z => z)) fun _ _ z => z)) fun _ _ z => z)
/-- a list that is one's own to write or was told to the ghost: rCat wants the tracked object itself -/
def rK {α : Type} (R : Rp α) : Rp (List α) := ⟨fun K G v xs => ∃ p vs, v = .ref p ∧ G p = some (.lst vs) ∧ RLs R K G vs xs, fun e ⟨p, vs, a, b, c⟩ => ⟨p, vs, a, e _ _ b, c.mono e⟩⟩
theorem rK_rL {v : V} {xs : List α} (h : (rK R).r K G v xs) : (rL R).r K G v xs := by
  obtain ⟨p, vs, a, b, c⟩ := h
  exact ⟨p, vs, a, .inl (.inl b), c⟩
theorem e_KL {m : Res (List α)} (h : EvE K fm te σ G O (rK R) m) : EvE K fm te σ G O (rL R) m := fun G1 H1 e k Q q =>
  h G1 H1 e k Q (Res.wp_mono q (fun xs q v G2 H2 s r => q v G2 H2 s (rK_rL r)) fun _ _ z => z)
theorem sq_K : Sq K (rK R) R := fun G v xs h => sq_L _ _ _ (rK_rL h)
theorem nn_K : Nn (rK R) := fun _ _ v x ⟨p, vs, h, _⟩ => by cases h; simp
theorem EvN.evK {m : Res (List α)} (h : EvN K fm te σ G O R m) : EvE K fm te σ G O (rK R) m := fun G1 H1 a k Q q =>
  h G1 H1 a k Q (Res.wp_mono q (fun xs f p vs G2 H2 s hp gp hl r =>
    f (.ref p) (upd G2 p (.lst vs)) H2 ⟨s.hh, s.gg.trans (same_new gp), same_updG s.gh hl, fun b o e => by
        rw [upd_ne (ne_of_none e hp)]; exact s.old b o e⟩
      ⟨p, vs, rfl, upd_same, r.mono (same_new gp)⟩) fun _ _ x => x)
def lim : Nat := 16777216
theorem lim_eq : lim = sizeLine := by rw [sizeLine_eq]; rfl
def catF {α : Type} (xs ys : List α) : Res (List α) := if xs.length + ys.length ≤ lim then .ok (xs ++ ys) else .stuck
def catM {α : Type} : Res (List α) → Res (List α) → Res (List α) := Res.bind2 catF
theorem n_cat {m n : Res (List α)} (ha : EvE K fm ta σ G O (rK R) m) (hb : EvE K fm tb σ G O (rK R) n) : EvN K fm (tOp rCat ta tb) σ G O R (catM m n) := fun G1 H1 e k Q q =>
  ha G1 H1 e k _ (Res.wp_mono (Res.wp_bind q) (fun x q u G2 H2 s ru =>
    hb G2 H2 (e.trans s.gg) (k.stp s) _ (Res.wp_mono (Res.wp_bind q) (fun y q v G3 H3 s' rv => by
      obtain ⟨p, vs, e1, h1, r1⟩ := ru
      obtain ⟨p', vs', e2, h2, r2⟩ := rv
      by_cases hl : x.length + y.length ≤ lim
      · rw [catF, if_pos hl] at q
        exact ⟨p, p', vs, vs', e1, e2, (s.trans s').gh _ _ (s'.gg _ _ h1), s'.gh _ _ h2, by rw [Paired.length r1, Paired.length r2, ← lim_eq]; exact hl, fun l hl =>
          q l _ G3 _ ((s.trans s').trans (Stp.grow s'.gh (same_new hl))) (same_back (s.trans s').hh hl) (same_back s'.gh hl) upd_same (paired_app (r1.mono s'.gg) r2)⟩
      · rw [catF, if_neg hl] at q; exact q.elim) fun _ _ z => z)) fun _ _ z => z)
theorem paired_rep {F : α → β → Prop} {xs : List α} {ys : List β} (h : Paired F xs ys) : ∀ k : Nat, Paired F (List.replicate k xs).flatten (List.replicate k ys).flatten
  | 0 => .nil
  | k + 1 => by
    rw [List.replicate_succ, List.replicate_succ, List.flatten_cons, List.flatten_cons]
    exact paired_app h (paired_rep h k)
def repF {α : Type} (xs : List α) (k : Int) : Res (List α) := if decide (-(2 ^ 63) ≤ k) && decide (k < 2 ^ 63) && decide (xs.length * k.toNat ≤ lim) then .ok (List.replicate k.toNat xs).flatten else .stuck
def repM {α : Type} : Res (List α) → Res Int → Res (List α) := Res.bind2 repF
end
end Mw

namespace Mw
open PySem L2
section
variable {α β γ δ : Type} {K : PySem.W.Frag} {fm : Fm} {σ : L2.St} {G G' H : Hp} {O : Own}
variable {te ta tb tc : TE} {R : Rp α} {S : Rp β} {T : Rp γ} {m : Res α} {n : Res β} {t u : TT} {a b c : Res Bool}

/-! ### tests -/
theorem t_val (h : EvE K fm te σ G O rB a) : EvT fm (tB te) σ G O a := fun G1 H1 e k Q q =>
  h G1 H1 e k _ (Res.wp_mono q (fun x q v G2 H2 s r => ⟨x, r, q G2 H2 s⟩) fun _ _ z => z)
theorem t_test (h : EvE K fm te σ G O rB a) : EvT fm (tTest te) σ G O a := t_val h
def andM (a b : Res Bool) : Res Bool := a.bind fun k => if k = true then b else .ok false
def orM (a b : Res Bool) : Res Bool := a.bind fun k => if k = true then .ok true else b
def notM (a : Res Bool) : Res Bool := a.bind fun k => .ok (!k)
@[simp] theorem andM_ok (x : Bool) (b) : andM (.ok x) b = if x = true then b else .ok false := rfl
@[simp] theorem orM_ok (x : Bool) (b) : orM (.ok x) b = if x = true then .ok true else b := rfl
@[simp] theorem notM_ok (x : Bool) : notM (.ok x) = .ok (!x) := rfl
theorem t_and (h1 : EvT fm t σ G O a) (h2 : EvT fm u σ G O b) : EvT fm (tAnd t u) σ G O (andM a b) := fun G1 H1 e k Q q =>
  h1 G1 H1 e k _ (Res.wp_mono (Res.wp_bind q) (fun x q G2 H2 s => by
    cases x with
    | true => exact h2 G2 H2 (e.trans s.gg) (k.stp s) _ (Res.wp_mono q (fun y q G3 H3 s' => q G3 H3 (s.trans s')) fun _ _ z => z)
    | false => exact q G2 H2 s) fun _ _ z => z)
theorem t_or (h1 : EvT fm t σ G O a) (h2 : EvT fm u σ G O b) : EvT fm (tOr t u) σ G O (orM a b) := fun G1 H1 e k Q q =>
  h1 G1 H1 e k _ (Res.wp_mono (Res.wp_bind q) (fun x q G2 H2 s => by
    cases x with
    | false => exact h2 G2 H2 (e.trans s.gg) (k.stp s) _ (Res.wp_mono q (fun y q G3 H3 s' => q G3 H3 (s.trans s')) fun _ _ z => z)
    | true => exact q G2 H2 s) fun _ _ z => z)
theorem t_not (h1 : EvT fm t σ G O a) : EvT fm (tNot t) σ G O (notM a) := fun G1 H1 e k Q q =>
  h1 G1 H1 e k _ (Res.wp_mono (Res.wp_bind q) (fun x q G2 H2 s => q G2 H2 s) fun _ _ z => z)
theorem e_and (h1 : EvE K fm ta σ G O rB a) (h2 : EvE K fm tb σ G O rB b) : EvE K fm (tAndV ta tb) σ G O rB (andM a b) := fun G1 H1 e k Q q =>
  h1 G1 H1 e k _ (Res.wp_mono (Res.wp_bind q) (fun x q v G2 H2 s r => ⟨x, r, by
    cases x with
    | true => exact h2 G2 H2 (e.trans s.gg) (k.stp s) _ (Res.wp_mono q (fun y q v G3 H3 s' r => q v G3 H3 (s.trans s') r) fun _ _ z => z)
    | false => exact q _ G2 H2 s rfl⟩) fun _ _ z => z)
theorem e_or (h1 : EvE K fm ta σ G O rB a) (h2 : EvE K fm tb σ G O rB b) : EvE K fm (tOrV ta tb) σ G O rB (orM a b) := fun G1 H1 e k Q q =>
  h1 G1 H1 e k _ (Res.wp_mono (Res.wp_bind q) (fun x q v G2 H2 s r => ⟨x, r, by
    cases x with
    | false => exact h2 G2 H2 (e.trans s.gg) (k.stp s) _ (Res.wp_mono q (fun y q v G3 H3 s' r => q v G3 H3 (s.trans s') r) fun _ _ z => z)
    | true => exact q _ G2 H2 s rfl⟩) fun _ _ z => z)
theorem e_not (h1 : EvE K fm ta σ G O rB a) : EvE K fm (tNotV ta) σ G O rB (notM a) := fun G1 H1 e k Q q =>
  h1 G1 H1 e k _ (Res.wp_mono (Res.wp_bind q) (fun x q v G2 H2 s r => ⟨x, r, q _ G2 H2 s rfl⟩) fun _ _ z => z)
/-- a test by a value's truth -/
abbrev tTr (K : PySem.W.Frag) (ta : TE) : TT := fun σ H Q => ta σ H fun x H' => ∃ k, TruV K x H' k ∧ Q k H'
def truL {α : Type} (m : Res (List α)) : Res Bool := m.bind fun xs => .ok (!xs.isEmpty)
@[simp] theorem truL_ok {α : Type} (xs : List α) : truL (.ok xs) = .ok (!xs.isEmpty) := rfl
theorem paired_empty {F : α → β → Prop} {xs : List α} {ys : List β} (h : Paired F xs ys) : xs.isEmpty = ys.isEmpty := by cases h <;> rfl
theorem t_truL {m : Res (List α)} (h : EvE K fm te σ G O (rL R) m) : EvT fm (tTr K te) σ G O (truL m) := fun G1 H1 e k Q q =>
  h G1 H1 e k _ (Res.wp_mono (Res.wp_bind q) (fun x q v G2 H2 s ⟨p, vs, ev, hq, r⟩ => by
    subst ev
    exact ⟨_, .inl ⟨vs, same_l s.gh hq, rfl⟩, by rw [paired_empty r]; exact q G2 H2 s⟩) fun _ _ z => z)
def truI (a : Res Int) : Res Bool := a.bind fun i => .ok (i != 0)
theorem t_truI {a : Res Int} (h : EvE K fm te σ G O zI a) : EvT fm (tTr K te) σ G O (truI a) := fun G1 H1 e k Q q =>
  h G1 H1 e k _ (Res.wp_mono (Res.wp_bind q) (fun x q v G2 H2 s r => by
    cases (show v = .int x from r)
    exact ⟨_, rfl, q G2 H2 s⟩) fun _ _ z => z)
theorem e_ifExp {m n : Res α} (h : EvT fm t σ G O c) (h1 : EvE K fm ta σ G O R m) (h2 : EvE K fm tb σ G O R n) : EvE K fm (tIf t ta tb) σ G O R (Res.ite c m n) := fun G1 H1 e k Q q =>
  h G1 H1 e k _ (Res.wp_mono (Res.wp_bind q) (fun x q G2 H2 s => by
    cases x with
    | true => exact h1 G2 H2 (e.trans s.gg) (k.stp s) _ (Res.wp_mono q (fun y q v G3 H3 s' r => q v G3 H3 (s.trans s') r) fun _ _ z => z)
    | false => exact h2 G2 H2 (e.trans s.gg) (k.stp s) _ (Res.wp_mono q (fun y q v G3 H3 s' r => q v G3 H3 (s.trans s') r) fun _ _ z => z)) fun _ _ z => z)
/-- a < b < c of ints -/
def chainM (p p' : Int → Int → Bool) (a b c : Res Int) : Res Bool := a.bind fun x => b.bind fun y => if p x y = true then c.bind fun z => .ok (p' y z) else .ok false
theorem e_chain {p p' : Int → Int → Bool} {a b c : Res Int} (ha : EvE K fm ta σ G O zI a) (hb : EvE K fm tb σ G O zI b) (hc : EvE K fm tc σ G O zI c) :
    EvE K fm (tChain (L2.rI0 fun i j => .bl (p i j)) (L2.rI0 fun i j => .bl (p' i j)) ta tb tc) σ G O rB (chainM p p' a b c) := fun G1 H1 e k Q q =>
  ha G1 H1 e k _ (Res.wp_mono (Res.wp_bind q) (fun x q v G2 H2 s r =>
    hb G2 H2 (e.trans s.gg) (k.stp s) _ (Res.wp_mono (Res.wp_bind q) (fun y q w G3 H3 s' r' => ⟨x, y, r, r', p x y, rfl, by
      cases ep : p x y with
      | true =>
        rw [ep, if_pos rfl] at q
        refine iteT ?_
        exact hc G3 H3 ((e.trans s.gg).trans s'.gg) ((k.stp s).stp s') _ (Res.wp_mono (Res.wp_bind q) (fun z q w' G4 H4 s'' r'' => ⟨y, z, r', r'', q _ G4 H4 ((s.trans s').trans s'') rfl⟩) fun _ _ z => z)
      | false =>
        rw [ep, if_neg Bool.false_ne_true] at q
        refine iteF ?_
        exact q _ G3 H3 (s.trans s') rfl⟩) fun _ _ z => z)) fun _ _ z => z)

/-! ### what a loop walks -/
structure ItOk (K : PySem.W.Frag) (G : Hp) (Oi : Own) (R : Rp α) (J : It) (xs : List α) : Prop where
  go : ∀ i G1 H, Same G G1 → Same G1 H → (∀ p ∈ Oi, H p.1 = some p.2) → i < xs.length → J.go i H
  stop : ∀ G1 H, Same G G1 → Same G1 H → (∀ p ∈ Oi, H p.1 = some p.2) → J.stop xs.length H
  yld : ∀ i G1 H v H', Same G G1 → Same G1 H → (∀ p ∈ Oi, H p.1 = some p.2) → i < xs.length → J.yld i H v H' → ∃ x G', xs[i]? = some x ∧ Stp G1 H G' H' ∧ R.r K G' v x
def EvI (K : PySem.W.Frag) (fm : Fm) (ti : TI) (σ : L2.St) (G : Hp) (O : Own) (Oi : Own) (R : Rp α) (m : Res (List α)) : Prop :=
  ∀ G1 H1, Same G G1 → Kn fm G1 O H1 → ∀ Q : It → Hp → Prop, m.wp (fun xs => ∀ J G2 H2, Stp G1 H1 G2 H2 → ItOk K G2 Oi R J xs → Q J H2) fm.xw → ti σ H1 Q
theorem paired_lt {F : α → β → Prop} {xs : List α} {ys : List β} (h : Paired F xs ys) {i : Nat} (hi : i < ys.length) : ∃ x, xs[i]? = some x := by
  have e := Paired.length h
  exact ⟨xs[i]'(by omega), by simp⟩
theorem itl_ok {p : Addr} {vs : List V} {xs : List α} (h : SqL K G p vs) (r : RLs R K G vs xs) : ItOk K G [] R (Itl K p) xs where
  go := fun i G1 H a b _ hi => let ⟨x, hx⟩ := paired_lt r hi; ⟨vs, x, same_l (a.trans b) h, hx⟩
  stop := fun G1 H a b _ => ⟨vs, same_l (a.trans b) h, Nat.le_of_eq (Paired.length r)⟩
  yld := fun i G1 H v H' a b _ hi y => by
    obtain ⟨e, y⟩ := y
    subst e
    obtain ⟨x, hx, rx⟩ := paired_get r (y vs (same_l (a.trans b) h))
    exact ⟨x, G1, hx, Stp.refl b, R.mono a rx⟩
theorem itt_ok {p : Addr} {vs : List V} {xs : List α} (h : SqT K G p vs) (r : RLs R K G vs xs) : ItOk K G [] R (Itt K p) xs where
  go := fun i G1 H a b _ hi => let ⟨x, hx⟩ := paired_lt r hi; ⟨vs, x, same_t (a.trans b) h, hx⟩
  stop := fun G1 H a b _ => ⟨vs, same_t (a.trans b) h, Nat.le_of_eq (Paired.length r)⟩
  yld := fun i G1 H v H' a b _ hi y => by
    obtain ⟨e, y⟩ := y
    subst e
    obtain ⟨x, hx, rx⟩ := paired_get r (y vs (same_t (a.trans b) h))
    exact ⟨x, G1, hx, Stp.refl b, R.mono a rx⟩
theorem i_list {m : Res (List α)} (h : EvE K fm te σ G O (rL R) m) : EvI K fm (iList K te) σ G O [] R m := fun G1 H1 e k Q q =>
  h G1 H1 e k _ (Res.wp_mono q (fun xs f v G2 H2 s ⟨p, vs, ev, hq, r⟩ => ⟨p, ev, ⟨vs, same_l s.gh hq⟩, f _ G2 H2 s (itl_ok hq r)⟩) fun _ _ z => z)
theorem i_tup {m : Res (List α)} (h : EvE K fm te σ G O (rT R) m) : EvI K fm (iTup K te) σ G O [] R m := fun G1 H1 e k Q q =>
  h G1 H1 e k _ (Res.wp_mono q (fun xs f v G2 H2 s ⟨p, vs, ev, hq, r⟩ => ⟨p, ev, ⟨vs, same_t s.gh hq⟩, f _ G2 H2 s (itt_ok hq r)⟩) fun _ _ z => z)
/-- lo, lo + 1, .. -/
def rgL (lo : Int) (n : Nat) : List Int := (List.range n).map fun i => lo + (i : Nat)
theorem rgL_length (lo : Int) (n : Nat) : (rgL lo n).length = n := by simp [rgL]
theorem rgL_get (lo : Int) {n i : Nat} (h : i < n) : (rgL lo n)[i]? = some (lo + (i : Nat)) := by simp [rgL, h]
theorem itr_ok (lo : Int) (n : Nat) : ItOk K G [] zI (Itr lo n) (rgL lo n) where
  go := fun i G1 H a b _ hi => by rw [rgL_length] at hi; exact hi
  stop := fun G1 H a b _ => by rw [rgL_length]; exact Nat.le_refl n
  yld := fun i G1 H v H' a b _ hi y => by
    rw [rgL_length] at hi
    obtain ⟨e, y⟩ := y
    subst e
    exact ⟨_, G1, rgL_get lo hi, Stp.refl b, y⟩
def inR (j : Int) : Bool := decide (-(2 ^ 62) ≤ j) && decide (j < 2 ^ 62)
def rng1M (a : Res Int) : Res (List Int) := a.bind fun j => if inR j = true then .ok (rgL 0 j.toNat) else .stuck
def rng2M (a b : Res Int) : Res (List Int) := a.bind fun i => b.bind fun j => if (inR i && inR j) = true then .ok (rgL i (j - i).toNat) else .stuck
theorem i_rng1 {a : Res Int} (h : EvE K fm te σ G O zI a) : EvI K fm (iRng1 (tCons te tNil)) σ G O [] zI (rng1M a) := fun G1 H1 e k Q q =>
  h G1 H1 e k _ (Res.wp_mono (Res.wp_bind q) (fun j q v G2 H2 s r => by
    cases (show v = .int j from r)
    cases hj : inR j with
    | false => rw [hj] at q; exact q.elim
    | true =>
      rw [hj, if_pos rfl] at q
      simp only [inR, Bool.and_eq_true, decide_eq_true_eq] at hj
      exact ⟨j, rfl, hj.1, hj.2, q _ G2 H2 s (itr_ok 0 _)⟩) fun _ _ z => z)
theorem i_rng2 {a b : Res Int} (h : EvE K fm ta σ G O zI a) (h' : EvE K fm tb σ G O zI b) : EvI K fm (iRng2 (tCons ta (tCons tb tNil))) σ G O [] zI (rng2M a b) := fun G1 H1 e k Q q =>
  h G1 H1 e k _ (Res.wp_mono (Res.wp_bind q) (fun i q v G2 H2 s r =>
    h' G2 H2 (e.trans s.gg) (k.stp s) _ (Res.wp_mono (Res.wp_bind q) (fun j q w G3 H3 s' r' => by
      cases (show v = .int i from r)
      cases (show w = .int j from r')
      cases hj : (inR i && inR j) with
      | false => rw [hj] at q; exact q.elim
      | true =>
        rw [hj, if_pos rfl] at q
        simp only [inR, Bool.and_eq_true, decide_eq_true_eq] at hj
        exact ⟨i, j, rfl, ⟨hj.1.1, hj.1.2, hj.2.1, hj.2.2⟩, q _ G3 H3 (s.trans s') (itr_ok i _)⟩) fun _ _ z => z)) fun _ _ z => z)
/-- enumerate(list) -/
def enumL {α : Type} (xs : List α) : List (Int × α) := xs.mapIdx fun i x => ((i : Nat), x)
theorem enumL_length (xs : List α) : (enumL xs).length = xs.length := by simp [enumL]
theorem ite_okE {p : Addr} {vs : List V} {xs : List α} (h : SqL K G p vs) (r : RLs R K G vs xs) : ItOk K G [] (rP2 zI R) (Ite K p) (enumL xs) where
  go := fun i G1 H a b _ hi => by
    rw [enumL_length] at hi
    obtain ⟨x, hx⟩ := paired_lt r hi
    exact ⟨vs, x, same_l (a.trans b) h, hx⟩
  stop := fun G1 H a b _ => ⟨vs, same_l (a.trans b) h, by rw [enumL_length]; exact Nat.le_of_eq (Paired.length r)⟩
  yld := fun i G1 H v H' a b _ hi y => by
    obtain ⟨p', x, ev, hp, eH, y⟩ := y
    subst ev eH
    obtain ⟨z, hz, rz⟩ := paired_get r (y vs (same_l (a.trans b) h))
    refine ⟨((i : Int), z), _, by simp [enumL, List.getElem?_mapIdx, hz], Stp.new b hp, p', _, rfl, .inl (.inl upd_same), _, _, rfl, rfl, _, rfl, R.mono (a.trans (same_new (same_back b hp))) rz⟩
def enumM {α : Type} (m : Res (List α)) : Res (List (Int × α)) := m.bind fun xs => .ok (enumL xs)
@[simp] theorem enumM_ok {α : Type} (xs : List α) : enumM (.ok xs) = .ok (enumL xs) := rfl
theorem i_enum {m : Res (List α)} (h : EvE K fm te σ G O (rL R) m) : EvI K fm (iEnum K (tCons te tNil)) σ G O [] (rP2 zI R) (enumM m) := fun G1 H1 e k Q q =>
  h G1 H1 e k _ (Res.wp_mono (Res.wp_bind q) (fun xs f v G2 H2 s ⟨p, vs, ev, hq, r⟩ => by
    subst ev
    exact ⟨p, vs, rfl, same_l s.gh hq, f _ G2 H2 s (ite_okE hq r)⟩) fun _ _ z => z)

/-! ### targets -/
def setL (σ : L2.St) : List Nat → List V → L2.St
  | i :: is, v :: vs => setL (σ.set i (some v)) is vs
  | _, _ => σ
def Tgt (K : PySem.W.Frag) (g : TG) (R : Rp α) (S : Rps α) (is : List Nat) : Prop := ∀ G H v x σ (Q : L2.St → Hp → Prop), Same G H → R.r K G v x → (∀ vs, S.r K G vs x → Q (setL σ is vs) H) → g v σ H Q
theorem tg_name {i : Nat} : Tgt K (gName i) R (rs1 R) [i] := fun G H v x σ Q e r q => q [v] ⟨v, rfl, r⟩
theorem tg_tup2 {i j : Nat} {R : Rp α} {S : Rp β} : Tgt K (gTup K 2 (gCons (gName i) (gCons (gName j) gNil))) (rP2 R S) (rsC R (rs1 S)) [i, j] := fun G H v x σ Q e r q => by
  obtain ⟨p, vs, ev, hq, rs⟩ := r
  obtain ⟨v1, r1, e1, h1, v2, e2, h2⟩ := id rs
  subst ev e1 e2
  exact ⟨p, _, rfl, same_t e hq, rfl, v1, _, rfl, v2, _, rfl, rfl, q _ rs⟩
theorem tg_tup3 {i j k : Nat} {R : Rp α} {S : Rp β} {T : Rp γ} : Tgt K (gTup K 3 (gCons (gName i) (gCons (gName j) (gCons (gName k) gNil)))) (rP3 R S T) (rsC R (rsC S (rs1 T))) [i, j, k] := fun G H v x σ Q e r q => by
  obtain ⟨p, vs, ev, hq, rs⟩ := r
  obtain ⟨v1, r1, e1, h1, v2, r2, e2, h2, v3, e3, h3⟩ := id rs
  subst ev e1 e2 e3
  exact ⟨p, _, rfl, same_t e hq, rfl, v1, _, rfl, v2, _, rfl, v3, _, rfl, rfl, q _ rs⟩

/-! ### list comprehensions -/
def lcM {α β : Type} (p : α → Res Bool) (f : α → Res β) : List α → Res (List β)
  | [] => .ok []
  | x :: xs => (p x).nox.bind fun b => if b = true then (f x).nox.bind fun y => (lcM p f xs).bind fun ys => .ok (y :: ys) else lcM p f xs
def lcB {α β : Type} (p : α → Res Bool) (f : α → Res β) (m : Res (List α)) : Res (List β) := m.bind fun xs => if xs.length < lim then lcM p f xs else .stuck
theorem wipe_get (τ : L2.St) (ws : List Nat) (j : Nat) : (wipe τ ws)[j]? = if j ∈ ws then (τ[j]?).map fun _ => none else τ[j]? := by
  induction ws with
  | nil => simp [wipe]
  | cons w ws ih =>
    show ((wipe τ ws).set w none)[j]? = _
    by_cases e : w = j
    · subst e
      rw [if_pos List.mem_cons_self]
      by_cases hl : w < τ.length
      · rw [List.getElem?_set_self (by rw [wipe_length]; exact hl)]
        simp [hl]
      · rw [List.getElem?_eq_none (by rw [List.length_set, wipe_length]; omega), List.getElem?_eq_none (by omega)]
        rfl
    · rw [List.getElem?_set_ne e, ih]
      by_cases hj : j ∈ ws
      · rw [if_pos hj, if_pos (List.mem_cons_of_mem _ hj)]
      · rw [if_neg hj, if_neg (by
          intro q
          rcases List.mem_cons.mp q with q | q
          · exact e q.symm
          · exact hj q)]
theorem wipe_set {σ : L2.St} {v : Option V} {i : Nat} {ws : List Nat} (h : i ∈ ws) : wipe (σ.set i v) ws = wipe σ ws := by
  apply List.ext_getElem?
  intro j
  rw [wipe_get, wipe_get]
  by_cases hj : j ∈ ws
  · rw [if_pos hj, if_pos hj]
    by_cases e : i = j
    · subst e
      by_cases hl : i < σ.length
      · rw [List.getElem?_set_self hl]; simp [hl]
      · rw [List.getElem?_eq_none (by rw [List.length_set]; omega), List.getElem?_eq_none (by omega)]
    · rw [List.getElem?_set_ne e]
  · rw [if_neg hj, if_neg hj, List.getElem?_set_ne]
    intro e; subst e; exact hj h
theorem wipe_wipe {σ : L2.St} {ws vs : List Nat} (h : ∀ i ∈ vs, i ∈ ws) : wipe (wipe σ vs) ws = wipe σ ws := by
  apply List.ext_getElem?
  intro j
  rw [wipe_get, wipe_get, wipe_get]
  by_cases hj : j ∈ ws
  · rw [if_pos hj, if_pos hj]
    split
    · cases σ[j]? <;> rfl
    · rfl
  · rw [if_neg hj, if_neg hj, if_neg fun q => hj (h j q)]
theorem wipe_setL {ws : List Nat} : ∀ {is : List Nat} {vs : List V} {σ : L2.St}, (∀ i ∈ is, i ∈ ws) → wipe (setL σ is vs) ws = wipe σ ws
  | [], _, _, _ => rfl
  | i :: is, [], _, _ => rfl
  | i :: is, v :: vs, σ, h => by
    show wipe (setL (σ.set i (some v)) is vs) ws = _
    rw [wipe_setL fun j hj => h j (List.mem_cons_of_mem _ hj), wipe_set (h i List.mem_cons_self)]
abbrev Fm.e0 (fm : Fm) : Fm := { fm with E := E0 }
theorem t_yes : EvT fm tYes σ G O (.ok true) := fun G1 H1 e k Q q => q G1 H1 (Stp.refl k.gh)
theorem Kn.e0 (k : Kn fm G O H) : Kn fm.e0 G O H := ⟨k.fr, k.gh, k.own⟩
theorem n_lc {Oi : Own} {ti : TI} {g : TG} {tt : TT} {ws is : List Nat} {m : Res (List α)} {Ss : Rps α} {p : α → Res Bool} {f : α → Res β}
    (hi : EvI K fm ti σ G O Oi R m) (hO : ∀ p ∈ Oi, p ∈ O) (tg : Tgt K g R Ss is) (hw : ∀ i ∈ is, i ∈ ws)
    (hb : ∀ x vs G', Same G G' → Ss.r K G' vs x → EvT fm.e0 tt (setL (wipe σ ws) is vs) G' O (p x) ∧ EvE K fm.e0 te (setL (wipe σ ws) is vs) G' O S (f x)) :
    EvN K fm (tLc ti g tt te ws) σ G O S (lcB p f m) := fun G1 H1 e k Q q =>
  hi G1 H1 e k _ (Res.wp_mono (Res.wp_bind q) (fun xs q J G2 H2 s it Dl hD => by
    by_cases hl : xs.length < lim
    · rw [if_pos hl] at q
      have kD : Kn fm G2 O (upd H2 Dl (.lst [])) := (k.stp s).stp (Stp.grow s.gh (same_new hD))
      have gD : G2 Dl = none := same_back s.gh hD
      refine ⟨fun i mm H => mm = xs.length - i ∧ i ≤ xs.length ∧ ∃ (G3 : Hp) (acc : List V) (ys : List β), Same G2 G3 ∧ Stp G2 H2 G3 H ∧ Kn fm G3 O H ∧ G3 Dl = none ∧ H Dl = some (.lst acc) ∧ acc.length ≤ i ∧ RLs S K G3 acc ys ∧
          (lcM p f (xs.drop i)).wp (fun zs => ∀ (q : Addr) vs G4 H4, Stp G1 H1 G4 H4 → H1 q = none → G4 q = none → H4 q = some (.lst vs) → RLs S K G4 vs (ys ++ zs) → Q (.ref q) H4) fm.xw,
        ⟨xs.length, by simp, Nat.zero_le _, G2, [], [], Same.refl _, Stp.grow s.gh (same_new hD), kD, gD, upd_same, Nat.le_refl _, .nil, q⟩, ?_⟩
      rintro i mm H ⟨rfl, hle, G3, acc, ys, g3, s3, k3, d3, hd3, hacc, racc, q3⟩
      by_cases hlt : i < xs.length
      · refine .inr ⟨it.go i G3 H g3 k3.gh (fun p hp => k3.own p (hO p hp)) hlt, _, fun H' z => ⟨xs.length - (i + 1), by omega, z⟩, fun v H' y => ?_⟩
        obtain ⟨x, G4, hx, s4, rx⟩ := it.yld i G3 H v H' g3 k3.gh (fun p hp => k3.own p (hO p hp)) hlt y
        have hdrop : xs.drop i = x :: xs.drop (i + 1) := by
          obtain ⟨h1, h2⟩ := List.getElem?_eq_some_iff.mp hx
          rw [List.drop_eq_getElem_cons h1, h2]
        rw [hdrop] at q3
        refine tg G4 H' v x _ _ s4.gh rx fun vs rvs => ⟨by rw [wipe_setL hw, wipe_wipe fun i h => h], ?_⟩
        obtain ⟨ht, he⟩ := hb x vs G4 ((e.trans s.gg).trans (g3.trans s4.gg)) rvs
        have k4 : Kn fm G4 O H' := k3.stp s4
        have hd4 : H' Dl = some (.lst acc) := s4.hh _ _ hd3
        have gd4 : G4 Dl = none := by rw [s4.old Dl _ hd3]; exact d3
        refine ht G4 H' (Same.refl _) k4.e0 _ (Res.wp_mono (Res.wp_nox (Res.wp_bind q3)) (fun b q5 G5 H5 s5 => ?_) fun _ _ z => z)
        have hd5 : H5 Dl = some (.lst acc) := s5.hh _ _ hd4
        have gd5 : G5 Dl = none := by rw [s5.old Dl _ hd4]; exact gd4
        cases b with
        | true =>
          refine iteT ?_
          rw [if_pos rfl] at q5
          refine he G5 H5 s5.gg (k4.stp s5).e0 _ (Res.wp_mono (Res.wp_nox (Res.wp_bind q5)) (fun y q6 v' G6 H6 s6 r6 => ?_) fun _ _ z => z)
          have hd6 : H6 Dl = some (.lst acc) := s6.hh _ _ hd5
          have gd6 : G6 Dl = none := by rw [s6.old Dl _ hd5]; exact gd5
          have sAll : Stp G2 H2 G6 H6 := s3.trans ((s4.trans s5).trans s6)
          refine ⟨acc, hd6, by rw [← lim_eq]; omega, rfl, hlt, G6, acc ++ [v'], ys ++ [y], g3.trans ((s4.gg.trans s5.gg).trans s6.gg), ?_, ?_, gd6, upd_same, by rw [List.length_append, List.length_singleton]; omega, paired_app (racc.mono ((s4.gg.trans s5.gg).trans s6.gg)) (.cons r6 .nil), ?_⟩
          · exact ⟨same_mut sAll.hh hD, sAll.gg, same_mut sAll.gh gd6, sAll.old⟩
          · have k6 := (k4.stp s5).stp s6
            refine ⟨fun b o h => ?_, same_mut k6.gh gd6, fun p hp => ?_⟩
            · have := k6.fr b o h
              rw [upd_ne]
              · exact this
              · intro eb; subst eb
                have z := (k.stp s).fr _ _ h
                rw [hD] at z; cases z
            · rw [upd_ne]
              · exact k6.own p hp
              · intro eb
                have z := (k.stp s).own p hp
                rw [eb, hD] at z; cases z
          · exact Res.wp_mono (Res.wp_bind q6) (fun zs q7 qa vs' G7 H7 a b c d r => q7 qa vs' G7 H7 a b c d (by rw [List.append_assoc] at r; exact r)) fun _ _ z => z
        | false =>
          refine iteF ?_
          rw [if_neg Bool.false_ne_true] at q5
          exact ⟨rfl, hlt, G5, acc, ys, g3.trans (s4.gg.trans s5.gg), s3.trans (s4.trans s5), k4.stp s5, gd5, hd5, by omega, racc.mono (s4.gg.trans s5.gg), q5⟩
      · have ei : i = xs.length := by omega
        subst ei
        rw [List.drop_length] at q3
        exact .inl ⟨it.stop G3 H g3 k3.gh (fun p hp => k3.own p (hO p hp)), q3 Dl acc G3 H (s.trans s3) (same_back s.hh hD) d3 hd3 (by rw [List.append_nil]; exact racc)⟩
    · rw [if_neg hl] at q; exact q.elim) fun _ _ z => z)
end
end Mw

namespace Mw
open PySem L2
/-- the state of a def's body: what it began with, the ghost, its own cells -/
structure Hs (fm : Fm) (G : Hp) (O : Own) (H : Hp) : Prop where
  fr : Same fm.F H
  g0 : Same fm.G0 G
  gh : Same G H
  old : ∀ b o, fm.F b = some o → G b = fm.G0 b
  own : ∀ p ∈ O, H p.1 = some p.2 ∧ G p.1 = none ∧ fm.F p.1 = none
  nd : (O.map (·.1)).Nodup
section
variable {α β γ δ ρ : Type} {K : PySem.W.Frag} {fm : Fm} {σ : L2.St} {G G' H H' : Hp} {O : Own}
theorem Hs.kn (h : Hs fm G O H) : Kn fm G O H := ⟨h.fr, h.gh, fun p hp => (h.own p hp).1⟩
theorem Hs.start {cl : Nat → Addr} {E : XK} (g : Same G H) : Hs ⟨H, G, E, cl⟩ G [] H := ⟨Same.refl _, Same.refl _, g, fun _ _ _ => rfl, (fun p hp => by cases hp), List.nodup_nil⟩
theorem Hs.stp (h : Hs fm G O H) (s : Stp G H G' H') : Hs fm G' O H' :=
  ⟨h.fr.trans s.hh, h.g0.trans s.gg, s.gh, fun b o e => (s.old b o (h.fr b o e)).trans (h.old b o e), fun p hp => by
    obtain ⟨a, b, c⟩ := h.own p hp
    exact ⟨s.hh _ _ a, (s.old _ _ a).trans b, c⟩, h.nd⟩
theorem Hs.fin (h : Hs fm G O H) : Stp fm.G0 fm.F G H := ⟨h.fr, h.g0, h.gh, h.old⟩
/-- a new cell of one's own -/
theorem Hs.new {p : Addr} {o : HO} (h : Hs fm G O H) (s : Stp G H G' H') (hp : H p = none) (gp : G' p = none) (e : H' p = some o) : Hs fm G' ((p, o) :: O) H' := by
  have h' := h.stp s
  refine ⟨h'.fr, h'.g0, h'.gh, h'.old, fun q hq => ?_, ?_⟩
  · rcases List.mem_cons.mp hq with rfl | hq
    · exact ⟨e, gp, same_back h.fr hp⟩
    · exact h'.own q hq
  · rw [List.map_cons, List.nodup_cons]
    refine ⟨fun hm => ?_, h.nd⟩
    obtain ⟨q, hq, e'⟩ := List.mem_map.mp hm
    have := (h.own q hq).1
    rw [e', hp] at this
    cases this
theorem nodup_at {O : Own} (h : (O.map (·.1)).Nodup) {i j : Nat} {p q : Addr × HO} (a : O[i]? = some p) (b : O[j]? = some q) (e : p.1 = q.1) : i = j := by
  have a' : (O.map (·.1))[i]? = some p.1 := by rw [List.getElem?_map, a]; rfl
  have b' : (O.map (·.1))[j]? = some p.1 := by rw [List.getElem?_map, b, e]; rfl
  obtain ⟨h1, e1⟩ := List.getElem?_eq_some_iff.mp a'
  obtain ⟨h2, e2⟩ := List.getElem?_eq_some_iff.mp b'
  exact (List.getElem_inj h).mp (e1.trans e2.symm)
/-- a cell of one's own is written -/
theorem Hs.set (h : Hs fm G O H) (i : Nat) {a : Addr} {o o' : HO} (hi : O[i]? = some (a, o)) : Hs fm G (O.set i (a, o')) (upd H a o') := by
  obtain ⟨ha, ga, fa⟩ := h.own (a, o) (List.mem_of_getElem? hi)
  refine ⟨same_mut h.fr fa, h.g0, same_mut h.gh ga, h.old, fun q hq => ?_, ?_⟩
  · obtain ⟨j, hj⟩ := List.mem_iff_getElem?.mp hq
    by_cases e : i = j
    · subst e
      rw [List.getElem?_set_self (List.getElem?_eq_some_iff.mp hi).1] at hj
      cases hj
      exact ⟨upd_same, ga, fa⟩
    · rw [List.getElem?_set_ne e] at hj
      obtain ⟨hq1, hq2, hq3⟩ := h.own q (List.mem_of_getElem? hj)
      refine ⟨?_, hq2, hq3⟩
      rw [upd_ne]
      · exact hq1
      · intro z
        exact e (nodup_at h.nd hi hj z.symm)
  · rw [List.map_set]
    have : (O.map (·.1)).set i a = O.map (·.1) := by
      apply List.ext_getElem?
      intro j
      by_cases e : i = j
      · subst e
        rw [List.getElem?_set_self (by rw [List.length_map]; exact (List.getElem?_eq_some_iff.mp hi).1), List.getElem?_map, hi]; rfl
      · rw [List.getElem?_set_ne e]
    rw [this]; exact h.nd
theorem Hs.at (h : Hs fm G O H) (i : Nat) {a : Addr} {o : HO} (hi : O[i]? = some (a, o)) : H a = some o ∧ G a = none ∧ fm.F a = none := h.own (a, o) (List.mem_of_getElem? hi)
/-- a cell of one's own is given away -/
theorem Hs.give (h : Hs fm G O H) (i : Nat) {a : Addr} {o : HO} (hi : O[i]? = some (a, o)) : Hs fm (upd G a o) (O.eraseIdx i) H := by
  obtain ⟨ha, ga, fa⟩ := h.at i hi
  refine ⟨h.fr, h.g0.trans (same_new ga), same_updG h.gh ha, fun b o e => ?_, fun q hq => ?_, ?_⟩
  · rw [upd_ne (ne_of_none e fa)]; exact h.old b o e
  · obtain ⟨j, hj⟩ := List.mem_iff_getElem?.mp hq
    have hj' : ∃ k, k ≠ i ∧ O[k]? = some q := by
      rw [List.getElem?_eraseIdx] at hj
      split at hj
      · exact ⟨j, by omega, hj⟩
      · exact ⟨j + 1, by omega, hj⟩
    obtain ⟨k, hk, hq'⟩ := hj'
    obtain ⟨hq1, hq2, hq3⟩ := h.own q (List.mem_of_getElem? hq')
    refine ⟨hq1, ?_, hq3⟩
    rw [upd_ne]
    · exact hq2
    · intro z
      exact hk (nodup_at h.nd hq' hi z)
  · exact h.nd.sublist ((List.eraseIdx_sublist _ _).map _)
/-- a cell is forgotten -/
theorem Hs.drop (h : Hs fm G O H) (i : Nat) : Hs fm G (O.eraseIdx i) H :=
  ⟨h.fr, h.g0, h.gh, h.old, fun q hq => h.own q ((List.eraseIdx_sublist O i).subset hq), h.nd.sublist ((List.eraseIdx_sublist _ _).map _)⟩

/-! ### lending: what does not keep the cell may look at it -/
variable {te ta tb tc : TE} {R : Rp α} {S : Rp β} {T : Rp γ} {m : Res α} {n : Res β}
theorem lend_kn {l : Addr} {o : HO} {G1 H1 : Hp} (k : Kn fm G1 O H1) (hl : (l, o) ∈ O) : Kn fm (upd G1 l o) O H1 := ⟨k.fr, same_updG k.gh (k.own _ hl), k.own⟩
theorem lend_same {l : Addr} {o : HO} {G G1 : Hp} (e : Same G G1) : Same (upd G l o) (upd G1 l o) := same_upd e
theorem t_lend {t : TT} {l : Addr} {o : HO} {m : Res Bool} (hl : (l, o) ∈ O) (h : EvT fm t σ (upd G l o) O m) : EvT fm t σ G O m := fun G1 H1 e k Q q =>
  h (upd G1 l o) H1 (same_upd e) (lend_kn k hl) _ (Res.wp_mono q (fun x f G2 H2 s => f G1 H2 (Stp.grow k.gh s.hh)) fun _ _ z => z)
theorem e_lend {l : Addr} {o : HO} (sc : Sc R) (hl : (l, o) ∈ O) (h : EvE K fm te σ (upd G l o) O R m) : EvE K fm te σ G O R m := fun G1 H1 e k Q q =>
  h (upd G1 l o) H1 (same_upd e) (lend_kn k hl) _ (Res.wp_mono q (fun x f v G2 H2 s r => f v G1 H2 (Stp.grow k.gh s.hh) (sc _ _ _ _ _ r)) fun _ _ z => z)
theorem n_lend {l : Addr} {o : HO} {m : Res (List α)} (sc : Sc R) (hl : (l, o) ∈ O) (h : EvN K fm te σ (upd G l o) O R m) : EvN K fm te σ G O R m := fun G1 H1 e k Q q =>
  h (upd G1 l o) H1 (same_upd e) (lend_kn k hl) _ (Res.wp_mono q (fun x f p vs G2 H2 s hp gp h2 r => f p vs G1 H2 (Stp.grow k.gh s.hh) hp (same_back k.gh hp) h2 (Paired.mapP r fun _ _ q => sc _ _ _ _ _ q)) fun _ _ z => z)
/-- a cell of one's own, as a value that is lent -/
theorem e_own {i : Nat} {l : Addr} {vs : List V} {xs : List α} (h : σ[i]? = some (some (.ref l))) (hG : G l = some (.lst vs)) (r : RLs R K G vs xs) : EvE K fm (tVar i) σ G O (rK R) (.ok xs) := e_var h ⟨l, vs, rfl, hG, r⟩
/-- what stands at a cell of one's own: its length, its items -/
theorem e_lenO {i : Nat} {l : Addr} {vs : List V} {xs : List α} (h : σ[i]? = some (some (.ref l))) (hl : (l, HO.lst vs) ∈ O) (r : RLs R K G vs xs) : EvE K fm (tCB (rLen K) (tCons (tVar i) tNil)) σ G O zI (lenM (.ok xs)) := fun G1 H1 e k Q q =>
  ⟨_, h, _, xs.length, rfl, .inl ⟨vs, SqL.of (k.own _ hl), (Paired.length r).symm⟩, q _ G1 H1 (Stp.refl k.gh) rfl⟩
theorem e_ixO {i : Nat} {l : Addr} {vs : List V} {xs : List α} {n : Res Int} (h : σ[i]? = some (some (.ref l))) (hl : (l, HO.lst vs) ∈ O) (r : RLs R K G vs xs) (hb : EvE K fm tb σ G O zI n) : EvE K fm (tOp (rIxL K) (tVar i) tb) σ G O R (idxM (.ok xs) n) := fun G1 H1 e k Q q =>
  ⟨_, h, hb G1 H1 e k _ (Res.wp_mono (Res.wp_bind (m := n) (f := fun j => optM (atI xs j)) q) (fun j q v G2 H2 s rv => by
    cases (show v = .int j from rv)
    cases ea : atI xs j with
    | none => rw [ea] at q; exact q.elim
    | some y =>
      rw [ea] at q
      obtain ⟨w, ew, rw'⟩ := paired_at r ea
      exact ⟨l, vs, j, w, rfl, rfl, SqL.of ((k.stp s).own _ hl), ew, q w G2 H2 s (R.mono (e.trans s.gg) rw')⟩) fun _ _ z => z)⟩

/-! ### statements -/
variable {D : Ends} {tr tt tu tw : TS} {ρ : Type} {Rρ : Rp ρ} {Q : ρ → Prop}
theorem s_asg {g : TG} {Ss : Rps α} {is : List Nat} {mk : α → Res ρ} (tg : Tgt K g R Ss is) (he : EvE K fm te σ G O R m) (hs : Hs fm G O H) (hm : (m.bind mk).wp Q fm.xw)
    (k : ∀ x vs G' H', Same G G' → Hs fm G' O H' → Ss.r K G' vs x → (mk x).wp Q fm.xw → tr D (setL σ is vs) H') : tSeq (tAsg te g) tr D σ H :=
  he G H (Same.refl _) hs.kn _ (Res.wp_mono (Res.wp_bind hm) (fun x q v G2 H2 s r => tg G2 H2 v x σ _ s.gh r fun vs rv => k x vs G2 H2 s.gg (hs.stp s) rv q) fun _ _ z => z)
/-- a new list of one's own -/
theorem s_asgN {i : Nat} {m : Res (List α)} {mk : List α → Res ρ} (he : EvN K fm te σ G O R m) (hs : Hs fm G O H) (hm : (m.bind mk).wp Q fm.xw)
    (k : ∀ xs p vs G' H', Same G G' → Hs fm G' ((p, .lst vs) :: O) H' → RLs R K G' vs xs → (mk xs).wp Q fm.xw → tr D (σ.set i (some (.ref p))) H') : tSeq (tAsg te (gName i)) tr D σ H :=
  he G H (Same.refl _) hs.kn _ (Res.wp_mono (Res.wp_bind hm) (fun xs q p vs G2 H2 s hp gp hl r => k xs p vs G2 H2 s.gg (hs.new s hp gp hl) r q) fun _ _ z => z)
theorem s_aug {i : Nat} {f : Int → Int → Int} {x : Int} {m : Res Int} {mk : Int → Res ρ} (hx : σ[i]? = some (some (.int x))) (he : EvE K fm te σ G O zI m) (hs : Hs fm G O H) (hm : (m.bind fun y => mk (f x y)).wp Q fm.xw)
    (k : ∀ y G' H', Same G G' → Hs fm G' O H' → (mk (f x y)).wp Q fm.xw → tr D (σ.set i (some (.int (f x y)))) H') : tSeq (tAug i te (ipI f)) tr D σ H :=
  ⟨.int x, hx, he G H (Same.refl _) hs.kn _ (Res.wp_mono (Res.wp_bind hm) (fun y q v G2 H2 s r => ⟨x, y, rfl, r, k y G2 H2 s.gg (hs.stp s) q⟩) fun _ _ z => z)⟩
/-- a value that is dropped -/
theorem s_drop {mk : α → Res ρ} (he : EvE K fm te σ G O R m) (hs : Hs fm G O H) (hm : (m.bind mk).wp Q fm.xw)
    (k : ∀ x G' H', Same G G' → Hs fm G' O H' → (mk x).wp Q fm.xw → tr D σ H') : tSeq (tDrop te) tr D σ H :=
  he G H (Same.refl _) hs.kn _ (Res.wp_mono (Res.wp_bind hm) (fun x q v G2 H2 s r => k x G2 H2 s.gg (hs.stp s) q) fun _ _ z => z)
theorem s_ret {kr : α → ρ} (he : EvE K fm te σ G O R m) (hs : Hs fm G O H) (hm : (m.bind fun r => .ok (kr r)).wp Q fm.xw)
    (k : ∀ r v G' H', Hs fm G' O H' → R.r K G' v r → Q (kr r) → D.rt v H') : tSeq (tRet te) tr D σ H :=
  he G H (Same.refl _) hs.kn _ (Res.wp_mono (Res.wp_bind hm) (fun x q v G2 H2 s r => k x v G2 H2 (hs.stp s) r q) fun _ _ z => z)
theorem s_if {c : TT} {mc : Res Bool} {a b : Res ρ} (hc : EvT fm c σ G O mc) (hs : Hs fm G O H) (hm : (Res.ite mc a b).wp Q fm.xw)
    (h1 : ∀ G' H', Same G G' → Hs fm G' O H' → a.wp Q fm.xw → tt { D with nx := tr D } σ H') (h2 : ∀ G' H', Same G G' → Hs fm G' O H' → b.wp Q fm.xw → tu { D with nx := tr D } σ H') : tSeq (tIfS c tt tu) tr D σ H :=
  hc G H (Same.refl _) hs.kn _ (Res.wp_mono (Res.wp_bind hm) (fun x q G2 H2 s => by
    cases x with
    | true => exact h1 G2 H2 s.gg (hs.stp s) q
    | false => exact h2 G2 H2 s.gg (hs.stp s) q) fun _ _ z => z)
/-- xs.append(e), xs in slot i, its cell the j-th of one's own -/
theorem s_append {i : Nat} (j : Nat) {l : Addr} {vs : List V} {xs : List α} {m : Res α} {mk : List α → Res ρ} (hx : σ[i]? = some (some (.ref l))) (hj : O[j]? = some (l, .lst vs)) (hr : RLs R K G vs xs) (he : EvE K fm te σ G O R m) (hs : Hs fm G O H)
    (hm : (m.bind fun y => if xs.length < lim then mk (xs ++ [y]) else .stuck).wp Q fm.xw)
    (k : ∀ y v G' H', Same G G' → Hs fm G' (O.set j (l, .lst (vs ++ [v]))) H' → RLs R K G' (vs ++ [v]) (xs ++ [y]) → (mk (xs ++ [y])).wp Q fm.xw → tr D σ H') : tSeq (tDrop (tBM K "list" rAppend (tVar i) (tCons te tNil))) tr D σ H :=
  ⟨_, hx, .inl ⟨rfl, vs, SqL.of (hs.at j hj).1⟩, he G H (Same.refl _) hs.kn _ (Res.wp_mono (Res.wp_bind hm) (fun y q v G2 H2 s r => by
    by_cases hl : xs.length < lim
    · rw [if_pos hl] at q
      exact ⟨l, vs, v, rfl, rfl, s.hh _ _ (hs.at j hj).1, by rw [Paired.length hr, ← lim_eq]; exact hl, k y v G2 _ s.gg ((hs.stp s).set j hj) (paired_app (hr.mono s.gg) (.cons r .nil)) q⟩
    · rw [if_neg hl] at q; exact q.elim) fun _ _ z => z)⟩
/-- xs[i] = e -/
def setF {α : Type} (xs : List α) (i : Int) (y : α) : Res (List α) := match ixN xs.length i with | some j => .ok (xs.set j y) | none => .stuck
theorem s_setL {i : Nat} (j : Nat) {l : Addr} {vs : List V} {xs : List α} {m : Res α} {n : Res Int} {mk : List α → Res ρ} (hx : σ[i]? = some (some (.ref l))) (hj : O[j]? = some (l, .lst vs)) (hr : RLs R K G vs xs) (he : EvE K fm te σ G O R m) (hi : EvE K fm ta σ G O zI n) (hs : Hs fm G O H)
    (hm : (m.bind fun y => n.bind fun z => (setF xs z y).bind mk).wp Q fm.xw)
    (k : ∀ ys ws G' H', Same G G' → Hs fm G' (O.set j (l, .lst ws)) H' → RLs R K G' ws ys → (mk ys).wp Q fm.xw → tr D σ H') : tSeq (tAsg te (gSub (tVar i) ta rSetL)) tr D σ H :=
  he G H (Same.refl _) hs.kn _ (Res.wp_mono (Res.wp_bind hm) (fun y q v G2 H2 s r => ⟨_, hx, hi G2 H2 s.gg (hs.stp s).kn _ (Res.wp_mono (Res.wp_bind q) (fun z q v' G3 H3 s' r' => by
    have ss := s.trans s'
    cases (show v' = .int z from r')
    cases e : ixN xs.length z with
    | none => rw [setF, e] at q; exact q.elim
    | some jj =>
      rw [setF, e] at q
      exact ⟨l, vs, z, jj, rfl, rfl, ss.hh _ _ (hs.at j hj).1, by rw [Paired.length hr]; exact e, k _ _ G3 _ ss.gg ((hs.stp ss).set j hj) (paired_set (R.mono s'.gg r) jj (hr.mono ss.gg)) q⟩) fun _ _ z => z)⟩) fun _ _ z => z)
/-- raise, by the class's number, the exception without a dict -/
theorem s_raise {cl : Addr} {c : Nat} (hs : Hs fm G O H) (hm : (Res.exc c [] : Res ρ).wp Q fm.xw) (e : fm.cl c = cl) : tSeq (fun _ σ H => (fun _ H (Q : XK) => Q (.ref cl) none H : L2.St → Hp → XK → Prop) σ H fun cls d H' => (fun (cls : Value) (d : Option Addr) (_ : L2.St) (H : Hp) => fm.E cls d H) cls d σ H') tr D σ H := by
  show fm.E (.ref cl) none H
  rw [← e]
  exact hm H none hs.fr rfl

/-! ### loops -/
inductive Tn (S ρ : Type) where | nx (s : S) | bk (s : S) | rt (r : ρ)
inductive Lp (S ρ : Type) where | nx (s : S) | rt (r : ρ)
def forB {α S ρ : Type} (f : α → S → Res (Tn S ρ)) : List α → S → Res (Lp S ρ)
  | [], s => .ok (.nx s)
  | x :: xs, s => (f x s).bind fun t => match t with | .nx s' => forB f xs s' | .bk s' => .ok (.nx s') | .rt r => .ok (.rt r)
def forM {α S : Type} (f : α → S → Res S) : List α → S → Res S
  | [], s => .ok s
  | x :: xs, s => (f x s).bind fun s' => forM f xs s'
/-- what a turn's ends are to give -/
structure TEnds {S ρ : Type} (K : PySem.W.Frag) (fm : Fm) (G : Hp) (W : S → L2.St → Hp → Own → Prop) (Rρ : Rp ρ) (Qb : Tn S ρ → Prop) (D : Ends) : Prop where
  nx : ∀ s σ G1 G2 O H, Same G G2 → W s σ G1 O → Same G1 G2 → Hs fm G2 O H → Qb (.nx s) → D.nx σ H
  ct : ∀ s σ G1 G2 O H, Same G G2 → W s σ G1 O → Same G1 G2 → Hs fm G2 O H → Qb (.nx s) → D.ct σ H
  bk : ∀ s σ G1 G2 O H, Same G G2 → W s σ G1 O → Same G1 G2 → Hs fm G2 O H → Qb (.bk s) → D.bk σ H
  rt : ∀ r v G2 O H, Hs fm G2 O H → Rρ.r K G2 v r → Qb (.rt r) → D.rt v H
theorem s_forB {Oi : Own} {S π : Type} {Sr : Type} {Rr : Rp Sr} {ti : TI} {g : TG} {Ss : Rps α} {is : List Nat} {m : Res (List α)} {f : α → S → Res (Tn S Sr)} {mk : Lp S Sr → Res ρ} {s0 : S} (W : S → L2.St → Hp → Own → Prop)
    (hi : EvI K fm ti σ G O Oi R m) (hO : ∀ s σ G O, W s σ G O → ∀ p ∈ Oi, p ∈ O) (tg : Tgt K g R Ss is) (hs : Hs fm G O H) (hm : ((m.bind fun xs => forB f xs s0).bind mk).wp Q fm.xw) (h0 : W s0 σ G O)
    (hb : ∀ x s σ' G1 G' O' H' vs (D' : Ends) (Qb : Tn S Sr → Prop), Same G G' → W s σ' G1 O' → Same G1 G' → Hs fm G' O' H' → Ss.r K G' vs x → TEnds K fm G' W Rr Qb D' → (f x s).wp Qb fm.xw → tw D' (setL σ' is vs) H')
    (hn : ∀ s σ' G1 G' O' H', Same G G' → W s σ' G1 O' → Same G1 G' → Hs fm G' O' H' → (mk (.nx s)).wp Q fm.xw → tr D σ' H')
    (hr : ∀ r v G2 O2 H2, Hs fm G2 O2 H2 → Rr.r K G2 v r → (mk (.rt r)).wp Q fm.xw → D.rt v H2) : tSeq (tFor ti g tw) tr D σ H := by
  refine hi G H (Same.refl _) hs.kn _ (Res.wp_mono (Res.wp_bind (Res.wp_bind hm)) (fun xs q J G2 H2 s it => ?_) fun _ _ z => z)
  refine ⟨fun i mm σ' H' => mm = xs.length - i ∧ i ≤ xs.length ∧ ∃ s' G1 G' O', Same G2 G' ∧ W s' σ' G1 O' ∧ Same G1 G' ∧ Hs fm G' O' H' ∧ ((forB f (xs.drop i) s').bind mk).wp Q fm.xw,
    ⟨xs.length, by simp, Nat.zero_le _, s0, G, G2, O, Same.refl _, h0, s.gg, hs.stp s, by
      rw [List.drop_zero]
      cases hx : forB f xs s0 with
      | ok a => rw [hx] at q; exact q
      | exc c fs => rw [hx] at q; exact q
      | stuck => rw [hx] at q; exact q⟩, ?_⟩
  rintro i mm σ' H' ⟨rfl, hle, s', G1, G', O', g2, w, g1, hs', q'⟩
  by_cases hlt : i < xs.length
  · refine .inr ⟨it.go i G' H' g2 hs'.gh (fun p hp => (hs'.own p (hO _ _ _ _ w p hp)).1) hlt, _, fun σ2 H2 z => ⟨xs.length - (i + 1), by omega, z⟩, fun v H3 y => ?_⟩
    obtain ⟨x, G4, hx, s4, rx⟩ := it.yld i G' H' v H3 g2 hs'.gh (fun p hp => (hs'.own p (hO _ _ _ _ w p hp)).1) hlt y
    have hdrop : xs.drop i = x :: xs.drop (i + 1) := by
      obtain ⟨h1, h2⟩ := List.getElem?_eq_some_iff.mp hx
      rw [List.drop_eq_getElem_cons h1, h2]
    rw [hdrop] at q'
    refine tg G4 H3 v x _ _ s4.gh rx fun vs rvs => ?_
    refine hb x s' σ' G1 G4 O' H3 vs _ (fun t => ((match t with | .nx s' => forB f (xs.drop (i + 1)) s' | .bk s' => .ok (.nx s') | .rt r => .ok (.rt r)).bind mk).wp Q fm.xw) ((s.gg.trans g2).trans s4.gg) w (g1.trans s4.gg) (hs'.stp s4) rvs ⟨?_, ?_, ?_, ?_⟩ (Res.wp_bind (by
      have := q'
      rw [forB] at this
      cases hx : f x s' with
      | ok a => rw [hx] at this; exact this
      | exc c fs => rw [hx] at this; exact this
      | stuck => rw [hx] at this; exact this))
    · exact fun s5 σ5 G5 G6 O5 H5 a b c d e => ⟨rfl, hlt, s5, G5, G6, O5, (g2.trans s4.gg).trans a, b, c, d, e⟩
    · exact fun s5 σ5 G5 G6 O5 H5 a b c d e => ⟨rfl, hlt, s5, G5, G6, O5, (g2.trans s4.gg).trans a, b, c, d, e⟩
    · exact fun s5 σ5 G5 G6 O5 H5 a b c d e => hn s5 σ5 G5 G6 O5 H5 (((s.gg.trans g2).trans s4.gg).trans a) b c d e
    · exact fun r v G5 O5 H5 a b c => hr r v G5 O5 H5 a b c
  · have ei : i = xs.length := by omega
    subst ei
    rw [List.drop_length] at q'
    exact .inl ⟨it.stop G' H' g2 hs'.gh (fun p hp => (hs'.own p (hO _ _ _ _ w p hp)).1), hn s' σ' G1 G' O' H' (s.gg.trans g2) w g1 hs' q'⟩
/-- a loop that neither breaks nor returns -/
structure MEnds {S : Type} (fm : Fm) (G : Hp) (W : S → L2.St → Hp → Own → Prop) (Qb : S → Prop) (D : Ends) : Prop where
  nx : ∀ s σ G1 G2 O H, Same G G2 → W s σ G1 O → Same G1 G2 → Hs fm G2 O H → Qb s → D.nx σ H
  ct : ∀ s σ G1 G2 O H, Same G G2 → W s σ G1 O → Same G1 G2 → Hs fm G2 O H → Qb s → D.ct σ H
theorem s_forM {Oi : Own} {S : Type} {ti : TI} {g : TG} {Ss : Rps α} {is : List Nat} {m : Res (List α)} {f : α → S → Res S} {mk : S → Res ρ} {s0 : S} (W : S → L2.St → Hp → Own → Prop)
    (hi : EvI K fm ti σ G O Oi R m) (hO : ∀ s σ G O, W s σ G O → ∀ p ∈ Oi, p ∈ O) (tg : Tgt K g R Ss is) (hs : Hs fm G O H) (hm : ((m.bind fun xs => forM f xs s0).bind mk).wp Q fm.xw) (h0 : W s0 σ G O)
    (hb : ∀ x s σ' G1 G' O' H' vs (D' : Ends) (Qb : S → Prop), Same G G' → W s σ' G1 O' → Same G1 G' → Hs fm G' O' H' → Ss.r K G' vs x → MEnds fm G' W Qb D' → (f x s).wp Qb fm.xw → tw D' (setL σ' is vs) H')
    (hn : ∀ s σ' G1 G' O' H', Same G G' → W s σ' G1 O' → Same G1 G' → Hs fm G' O' H' → (mk s).wp Q fm.xw → tr D σ' H') : tSeq (tFor ti g tw) tr D σ H := by
  have key : ∀ (xs : List α) (s : S), ((forB (ρ := Unit) (fun x s => (f x s).bind fun s => .ok (.nx s)) xs s).bind fun | .nx s => mk s | .rt _ => .stuck) = (forM f xs s).bind mk := by
    intro xs
    induction xs with
    | nil => intro s; rfl
    | cons x xs ih =>
      intro s
      rw [forB, forM]
      cases hx : f x s with
      | ok a => simp only [Res.bind_ok]; exact ih a
      | exc c fs => rfl
      | stuck => rfl
  refine s_forB (π := Unit) (Rr := rN) (f := fun x s => (f x s).bind fun s => .ok (.nx s)) (mk := fun | .nx s => mk s | .rt _ => .stuck) (s0 := s0) W hi hO tg hs ?_ h0 (fun x s σ' G1 G' O' H' vs D' Qb a b c d e E q => ?_) hn (fun r v G2 O2 H2 _ _ z => z.elim)
  · cases hx : m with
    | ok xs => rw [hx] at hm; simp only [Res.bind_ok] at hm ⊢; rw [key]; exact hm
    | exc c fs => rw [hx] at hm; exact hm
    | stuck => rw [hx] at hm; exact hm
  · exact hb x s σ' G1 G' O' H' vs D' (fun s => Qb (.nx s)) a b c d e ⟨E.nx, E.ct⟩ (Res.wp_bind q)
/-- while -/
def whB {S ρ : Type} (c : S → Res Bool) (f : S → Res (Tn S ρ)) : Nat → S → Res (Lp S ρ)
  | 0, _ => .stuck
  | n + 1, s => (c s).bind fun b => if b = true then (f s).bind fun t => match t with | .nx s' => whB c f n s' | .bk s' => .ok (.nx s') | .rt r => .ok (.rt r) else .ok (.nx s)
theorem s_whB {S : Type} {Sr : Type} {Rr : Rp Sr} {c : TT} {mc : S → Res Bool} {f : S → Res (Tn S Sr)} {mk : Lp S Sr → Res ρ} {s0 : S} {fuel : Nat} (W : S → L2.St → Hp → Own → Prop)
    (hs : Hs fm G O H) (hm : ((whB mc f fuel s0).bind mk).wp Q fm.xw) (h0 : W s0 σ G O)
    (hc : ∀ s σ' G1 G' O', Same G G' → W s σ' G1 O' → Same G1 G' → EvT fm c σ' G' O' (mc s))
    (hb : ∀ s σ' G1 G' O' H' (D' : Ends) (Qb : Tn S Sr → Prop), Same G G' → W s σ' G1 O' → Same G1 G' → Hs fm G' O' H' → TEnds K fm G' W Rr Qb D' → (f s).wp Qb fm.xw → tw D' σ' H')
    (hn : ∀ s σ' G1 G' O' H', Same G G' → W s σ' G1 O' → Same G1 G' → Hs fm G' O' H' → (mk (.nx s)).wp Q fm.xw → tr D σ' H')
    (hr : ∀ r v G2 O2 H2, Hs fm G2 O2 H2 → Rr.r K G2 v r → (mk (.rt r)).wp Q fm.xw → D.rt v H2) : tSeq (tWhile c tw) tr D σ H := by
  refine ⟨fun mm σ' H' => ∃ s' G1 G' O', Same G G' ∧ W s' σ' G1 O' ∧ Same G1 G' ∧ Hs fm G' O' H' ∧ ((whB mc f mm s').bind mk).wp Q fm.xw, ⟨fuel, s0, G, G, O, Same.refl _, h0, Same.refl _, hs, hm⟩, ?_⟩
  rintro mm σ' H' ⟨s', G1, G', O', g, w, g1, hs', q'⟩
  cases mm with
  | zero => exact q'.elim
  | succ mm =>
    have q1 : (mc s').wp (fun b => ((if b = true then (f s').bind fun t => match t with | .nx s' => whB mc f mm s' | .bk s' => .ok (.nx s') | .rt r => .ok (.rt r) else .ok (.nx s')).bind mk).wp Q fm.xw) fm.xw := by
      rw [whB] at q'
      cases hx : mc s' with
      | ok a => rw [hx] at q'; exact q'
      | exc c fs => rw [hx] at q'; exact q'
      | stuck => rw [hx] at q'; exact q'
    refine hc s' σ' G1 G' O' g w g1 G' H' (Same.refl _) hs'.kn _ (Res.wp_mono q1 (fun b q2 G2 H2 s2 => ?_) fun _ _ z => z)
    cases b with
    | true =>
      refine iteT ⟨_, fun σ2 H2 z => ⟨mm, Nat.lt_succ_self _, z⟩, ?_⟩
      rw [if_pos rfl] at q2
      refine hb s' σ' G1 G2 O' H2 _ (fun t => ((match t with | .nx s' => whB mc f mm s' | .bk s' => .ok (.nx s') | .rt r => .ok (.rt r)).bind mk).wp Q fm.xw) (g.trans s2.gg) w (g1.trans s2.gg) (hs'.stp s2) ⟨?_, ?_, ?_, ?_⟩ (Res.wp_bind (by
        cases hx : f s' with
        | ok a => rw [hx] at q2; exact q2
        | exc c fs => rw [hx] at q2; exact q2
        | stuck => rw [hx] at q2; exact q2))
      · exact fun s5 σ5 G5 G6 O5 H5 a b c d e => ⟨s5, G5, G6, O5, (g.trans s2.gg).trans a, b, c, d, e⟩
      · exact fun s5 σ5 G5 G6 O5 H5 a b c d e => ⟨s5, G5, G6, O5, (g.trans s2.gg).trans a, b, c, d, e⟩
      · exact fun s5 σ5 G5 G6 O5 H5 a b c d e => hn s5 σ5 G5 G6 O5 H5 ((g.trans s2.gg).trans a) b c d e
      · exact fun r v G5 O5 H5 a b c => hr r v G5 O5 H5 a b c
    | false =>
      refine iteF ?_
      rw [if_neg Bool.false_ne_true] at q2
      exact hn s' σ' G1 G2 O' H2 (g.trans s2.gg) w (g1.trans s2.gg) (hs'.stp s2) q2
end
end Mw

namespace Mw
open PySem PySem.Spec PyProof.Rows L2
section
variable {α β γ δ ρ : Type} {K : PySem.W.Frag} {fm : Fm} {σ : L2.St} {G G' H H' : Hp} {O : Own}
variable {te ta tb tc : TE} {R : Rp α} {S : Rp β} {T : Rp γ} {m : Res α} {n : Res β}

/-! ### where two ways meet again -/
structure JEnds {J : Type} (fm : Fm) (G : Hp) (W : J → L2.St → Hp → Own → Prop) (Qb : J → Prop) (N : L2.St → Hp → Prop) : Prop where
  nx : ∀ s σ G1 G2 O H, Same G G2 → W s σ G1 O → Same G1 G2 → Hs fm G2 O H → Qb s → N σ H
variable {D : Ends} {tr tt tu tw : TS} {Q : ρ → Prop}
theorem s_ifJ {J : Type} {c : TT} {mc : Res Bool} {a b : Res ρ} {k : J → Res ρ} (W : J → L2.St → Hp → Own → Prop) (hc : EvT fm c σ G O mc) (hs : Hs fm G O H) (hm : (Res.ite mc a b).wp Q fm.xw)
    (hk : ∀ s σ' G1 G' O' H', Same G G' → W s σ' G1 O' → Same G1 G' → Hs fm G' O' H' → (k s).wp Q fm.xw → tr D σ' H')
    (h1 : ∀ G' H', JEnds fm G' W (fun s => (k s).wp Q fm.xw) (tr D) → Same G G' → Hs fm G' O H' → a.wp Q fm.xw → tt { D with nx := tr D } σ H')
    (h2 : ∀ G' H', JEnds fm G' W (fun s => (k s).wp Q fm.xw) (tr D) → Same G G' → Hs fm G' O H' → b.wp Q fm.xw → tu { D with nx := tr D } σ H') : tSeq (tIfS c tt tu) tr D σ H :=
  s_if hc hs hm (fun G' H' e hs' q => h1 G' H' ⟨fun s σ G1 G2 O H a b c d e' => hk s σ G1 G2 O H (e.trans a) b c d e'⟩ e hs' q) fun G' H' e hs' q => h2 G' H' ⟨fun s σ G1 G2 O H a b c d e' => hk s σ G1 G2 O H (e.trans a) b c d e'⟩ e hs' q

/-! ### rK: more -/
def qK [DecidableEq α] (q : Qd R) : Qd (rK R) where
  dat xs := .list (xs.map q.dat)
  dp {K G v x} h := (qL q).dp (rK_rL h)
  lay := (qL q).lay
  dep := q.dep + 1
  dle := (qL q).dle
  eqv := (qL q).eqv
  nn := true
  nnd _ _ h := nomatch h
theorem n_rep {m : Res (List α)} {n : Res Int} (ha : EvE K fm ta σ G O (rK R) m) (hb : EvE K fm tb σ G O zI n) : EvN K fm (tOp rRep ta tb) σ G O R (repM m n) := fun G1 H1 e k Q q =>
  ha G1 H1 e k _ (Res.wp_mono (Res.wp_bind q) (fun x q u G2 H2 s ru =>
    hb G2 H2 (e.trans s.gg) (k.stp s) _ (Res.wp_mono (Res.wp_bind q) (fun y q v G3 H3 s' rv => by
      obtain ⟨p, vs, e1, h1, r1⟩ := ru
      cases (show v = .int y from rv)
      cases hl : (decide (-(2 ^ 63) ≤ y) && decide (y < 2 ^ 63) && decide (x.length * y.toNat ≤ lim)) with
      | true =>
        rw [repF, hl, if_pos rfl] at q
        simp only [Bool.and_eq_true, decide_eq_true_eq] at hl
        exact ⟨p, y, vs, e1, rfl, s'.gh _ _ (s'.gg _ _ h1), hl.1.1, hl.1.2, by rw [Paired.length r1, ← lim_eq]; exact hl.2, fun l hl =>
          q l _ G3 _ ((s.trans s').trans (Stp.grow s'.gh (same_new hl))) (same_back (s.trans s').hh hl) (same_back s'.gh hl) upd_same (paired_rep (r1.mono s'.gg) _)⟩
      | false => rw [repF, hl] at q; exact q.elim) fun _ _ z => z)) fun _ _ z => z)
theorem rls_some (nn : Nn R) {vs : List V} {xs : List α} (r : RLs R K G vs xs) : RLs (rO R) K G vs (xs.map some) := by
  induction r with
  | nil => exact .nil
  | cons r t ih => exact .cons ⟨nn _ _ _ _ r, r⟩ ih
/-- list[int] as list[int or None] and back -/
theorem e_mapSome (nn : Nn R) {m : Res (List α)} (h : EvE K fm te σ G O (rK R) m) : EvE K fm te σ G O (rK (rO R)) (m.bind fun xs => .ok (xs.map some)) := fun G1 H1 e k Q q =>
  h G1 H1 e k _ (Res.wp_mono (Res.wp_bind q) (fun xs q v G2 H2 s ⟨p, vs, e1, h1, r1⟩ => q v G2 H2 s ⟨p, vs, e1, h1, rls_some nn r1⟩) fun _ _ z => z)
def allSome {α : Type} : List (Option α) → Option (List α)
  | [] => some []
  | none :: _ => none
  | some a :: xs => match allSome xs with | some ys => some (a :: ys) | none => none
theorem allSome_map {α : Type} : ∀ xs : List α, allSome (xs.map some) = some xs
  | [] => rfl
  | x :: xs => by rw [List.map_cons, allSome, allSome_map xs]
theorem allSome_rls {vs : List V} {xs : List (Option α)} {ys : List α} (r : RLs (rO R) K G vs xs) (h : allSome xs = some ys) : RLs R K G vs ys := by
  induction r generalizing ys with
  | nil => cases h; exact .nil
  | @cons v x vs xs r t ih =>
    cases x with
    | none => cases h
    | some a =>
      rw [allSome] at h
      cases hx : allSome xs with
      | none => rw [hx] at h; cases h
      | some zs => rw [hx] at h; cases h; exact .cons r.2 (ih hx)
theorem e_mapGet {m : Res (List (Option α))} (h : EvE K fm te σ G O (rK (rO R)) m) : EvE K fm te σ G O (rK R) (m.bind fun xs => optM (allSome xs)) := fun G1 H1 e k Q q =>
  h G1 H1 e k _ (Res.wp_mono (Res.wp_bind q) (fun xs q v G2 H2 s ⟨p, vs, e1, h1, r1⟩ => by
    cases hx : allSome xs with
    | none => rw [hx] at q; exact q.elim
    | some ys => rw [hx] at q; exact q v G2 H2 s ⟨p, vs, e1, h1, allSome_rls r1 hx⟩) fun _ _ z => z)

/-! ### range objects -/
def rR : Rp (Int × Int) := ⟨fun _ G v a => ∃ p, v = .ref p ∧ G p = some (.rng a.1 a.2), fun e ⟨p, a, b⟩ => ⟨p, a, e _ _ b⟩⟩
theorem cr_range1 {X : Cx} : CallR X (.type "range") (fun vs H Q => ∃ j, vs = [V.int j] ∧ ∀ p, H p = none → Q (.ref p) (upd H p (.rng 0 j))) := by
  intro pins s σ H xs us Q I r h
  obtain ⟨j, rfl, q⟩ := h
  cases r with
  | cons r rr =>
    cases rr
    obtain ⟨t, rfl⟩ := r
    refine call_range_1 ⟨.ref s.heap.objs.size, upd H s.heap.objs.size (.rng 0 j), I.laid (t' := s.toks + 1 + 1) (fun b o e => Heap.get?_push_of_some _ e) (Nat.le_refl _) ?_, rfl, q _ (I.hok.fresh (Nat.le_refl _))⟩
    exact ⟨_, _, _, Heap.get?_push_size _ rfl⟩
theorem e_range1 {a : Res Int} (h : EvE K fm te σ G O zI a) : EvE K fm (tCB (fun vs H Q => ∃ j, vs = [V.int j] ∧ ∀ p, H p = none → Q (.ref p) (upd H p (.rng 0 j))) (tCons te tNil)) σ G O rR (a.bind fun j => .ok (0, j)) :=
  e_cb (a_one h) fun G1 H1 x vs k ⟨v, ev, r⟩ Q q => by
    subst ev; cases (show v = .int x from r)
    exact ⟨x, rfl, fun p hp => q _ _ _ (Stp.new k.gh hp) ⟨p, rfl, upd_same⟩⟩
def iRngO (te : TE) : TI := fun σ H R => te σ H fun x H1 => ∃ p lo hi, x = .ref p ∧ H1 p = some (.rng lo hi) ∧ -(2 ^ 62) ≤ lo ∧ lo < 2 ^ 62 ∧ -(2 ^ 62) ≤ hi ∧ hi < 2 ^ 62 ∧ R (Itr lo (hi - lo).toNat) H1
theorem pi_rngO {X : Cx} {tg e : Expr} (he : PE X e te) : PI X tg e (iRngO te) := by
  refine ⟨fun pins s σ H R I h => ?_⟩
  refine thn (he.run pins s σ H _ I h) fun v s1 ⟨x, H1, I1, r1, q1⟩ => ?_
  obtain ⟨p, lo, hi, e1, hp, h1, h2, h3, h4, q⟩ := q1
  subst e1
  cases r1
  obtain ⟨t, u, w, hg⟩ := I1.hok p _ hp
  refine wpAny_pyIter_range (r := p) (show IsRange s1.heap p lo hi 1 t u w from hg) (small_one h1 h2 h3 h4) ?_
  refine ⟨s1.heap.objs.size, [s1.heap.objs.size], _, _, H1, rfl, I1.kept (t' := s1.toks) fun b o e => Heap.get?_push_of_some _ e, turn_range _ lo (hi - lo).toNat, ?_, fun b hb => ?_, q⟩
  · have e1 : lo + ((0 : Nat) : Int) * 1 = lo := by simp
    have e2 : (((hi - lo).toNat : Nat) : Int) - ((0 : Nat) : Int) = Builtin.Range.rangeSize lo hi 1 := by rw [rangeSize_one]; split <;> omega
    show IsRangeIter _ _ (lo + ((0 : Nat) : Int) * 1) ((((hi - lo).toNat : Nat) : Int) - ((0 : Nat) : Int)) 1
    rw [e1, e2]
    exact Heap.get?_push_size _ rfl
  · have e : b = s1.heap.objs.size := by simpa using hb
    subst e
    exact I1.fpOk (Nat.le_refl _) (I1.hok.fresh (Nat.le_refl _))
def rngOM (a : Res (Int × Int)) : Res (List Int) := a.bind fun p => if (inR p.1 && inR p.2) = true then .ok (rgL p.1 (p.2 - p.1).toNat) else .stuck
theorem i_rngO {a : Res (Int × Int)} (h : EvE K fm te σ G O rR a) : EvI K fm (iRngO te) σ G O [] zI (rngOM a) := fun G1 H1 e k Q q =>
  h G1 H1 e k _ (Res.wp_mono (Res.wp_bind q) (fun x q v G2 H2 s ⟨p, ev, hp⟩ => by
    cases hj : (inR x.1 && inR x.2) with
    | false => rw [hj] at q; exact q.elim
    | true =>
      rw [hj, if_pos rfl] at q
      simp only [inR, Bool.and_eq_true, decide_eq_true_eq] at hj
      exact ⟨p, x.1, x.2, ev, s.gh _ _ hp, hj.1.1, hj.1.2, hj.2.1, hj.2.2, q _ G2 H2 s (itr_ok x.1 _)⟩) fun _ _ z => z)

/-! ### isinstance, answers that the kind of the value tells -/
/-- of what class the value is, by the representation -/
def TyIs (K : PySem.W.Frag) (R : Rp α) (f : α → String) : Prop := ∀ G H v x, Same G H → R.r K G v x → TyX K H v (.type (f x))
theorem rd_ty {H : Hp} {p : Addr} {vs : List V} (h : SqL K H p vs) : TyX K H (.ref p) (.type "list") := by
  rcases h with (h | ⟨o, h⟩) | ⟨o, its, n, h, hc, _⟩
  · exact .base (.lst h)
  · exact .base (.frz h)
  · exact .kList h hc
theorem rd_tyT {H : Hp} {p : Addr} {vs : List V} (h : SqT K H p vs) : TyX K H (.ref p) (.type "tuple") := by
  rcases h with (h | ⟨o, h⟩) | ⟨o, its, n, h, hc, _⟩
  · exact .base (.tup h)
  · exact .fTuple h
  · exact .kTuple h hc
theorem ty_I : TyIs K zI fun _ => "int" := fun G H v x e h => by cases (show v = .int x from h); exact .base (.int x)
theorem ty_B : TyIs K rB fun _ => "bool" := fun G H v x e h => by cases (show v = .bl x from h); exact .base (.bl x)
theorem ty_S : TyIs K rS fun _ => "str" := fun G H v x e h => by cases (show v = .str x from h); exact .base (.str x)
theorem ty_OI : TyIs K (rO zI) fun o => match o with | none => "NoneType" | some _ => "int" := fun G H v x e h => by
  cases x with
  | none => cases (show v = .non from h); exact .base .non
  | some a => cases (show v = .int a from h.2); exact .base (.int a)
theorem ty_K : TyIs K (rK R) fun _ => "list" := fun G H v x e ⟨p, vs, ev, h, _⟩ => by subst ev; exact .base (.lst (e _ _ h))
theorem ty_L : TyIs K (rL R) fun _ => "list" := fun G H v x e ⟨p, vs, ev, h, _⟩ => by subst ev; exact rd_ty (same_l e h)
theorem ty_T : TyIs K (rT R) fun _ => "tuple" := fun G H v x e ⟨p, vs, ev, h, _⟩ => by subst ev; exact rd_tyT (same_t e h)
theorem ty_P {S : Rps α} : TyIs K (rP S) fun _ => "tuple" := fun G H v x e ⟨p, vs, ev, h, _⟩ => by subst ev; exact rd_tyT (same_t e h)
theorem e_isi {f : α → String} {c : String} {g : α → Bool} (ty : TyIs K R f) (hg : ∀ x, kitB (f x) c = some (g x)) (h : EvE K fm te σ G O R m) :
    EvE K fm (tCB (rIsi K) (tCons te (tCons (tC (.ty c)) tNil))) σ G O rB (m.bind fun x => .ok (g x)) := fun G1 H1 e k Q q =>
  h G1 H1 e k _ (Res.wp_mono (Res.wp_bind q) (fun x q v G2 H2 s r => ⟨v, .ty c, .type (f x), .type c, g x, rfl, .ty c, ty _ _ _ _ s.gh r, kit_ty (hg x), q _ G2 H2 s rfl⟩) fun _ _ z => z)

/-! ### list.index -/
def indexF {α : Type} [DecidableEq α] (xs : List α) (x : α) : Res Int := if xs.findIdx (fun y => decide (y = x)) < xs.length then .ok ((xs.findIdx fun y => decide (y = x)) : Nat) else .stuck
def indexM {α : Type} [DecidableEq α] : Res (List α) → Res α → Res Int := Res.bind2 indexF
theorem e_index [DecidableEq α] (s : Sr R) {m : Res (List α)} {n : Res α} (ha : EvE K fm ta σ G O (rL R) m) (hb : EvE K fm tb σ G O R n) : EvE K fm (tBM K "list" (rIndex K) ta (tCons tb tNil)) σ G O zI (indexM m n) := fun G1 H1 e k Q q =>
  ha G1 H1 e k _ (Res.wp_mono (Res.wp_bind q) (fun xs q v G2 H2 s2 ⟨p, vs, ev, hq, rs⟩ => by
    subst ev
    refine ⟨.inl ⟨rfl, vs, same_l s2.gh hq⟩, ?_⟩
    refine hb G2 H2 (e.trans s2.gg) (k.stp s2) _ (Res.wp_mono (Res.wp_bind q) (fun y q w G3 H3 s3 rw => ?_) fun _ _ z => z)
    cases s.is rw; cases sr_vals s rs
    rw [indexF] at q
    split at q
    · rename_i hl
      refine ⟨p, _, s.enc y, xs.findIdx (fun z => decide (z = y)), s.enc (xs[xs.findIdx (fun z => decide (z = y))]), rfl, rfl, same_l s3.hh (same_l s2.gh hq), s.fl y, sr_all s xs, by simp [hl], ?_, ?_, q _ G3 H3 (s2.trans s3) rfl⟩
      · rw [s.eq]; exact List.findIdx_getElem (w := hl)
      · intro mm z hmm hz
        rw [List.getElem?_map] at hz
        have hl' : mm < xs.length := Nat.lt_trans hmm hl
        rw [List.getElem?_eq_getElem hl'] at hz
        cases hz
        rw [s.eq]
        have := List.not_of_lt_findIdx hmm
        simpa using this
    · exact q.elim) fun _ _ z => z)
end
end Mw

namespace Mw
open PySem PySem.Spec PyProof.Rows L2
def appM {α ρ : Type} (xs : List α) (m : Res α) (mk : List α → Res ρ) : Res ρ := m.bind fun y => if xs.length < lim then mk (xs ++ [y]) else .stuck
theorem appM_ok {α ρ : Type} (xs : List α) (y : α) (mk : List α → Res ρ) (h : xs.length < lim) : appM xs (.ok y) mk = mk (xs ++ [y]) := by
  show (if xs.length < lim then mk (xs ++ [y]) else .stuck) = _
  rw [if_pos h]
def setM {α ρ : Type} (xs : List α) (n : Res Int) (m : Res α) (mk : List α → Res ρ) : Res ρ := m.bind fun y => n.bind fun z => (setF xs z y).bind mk
def augM {ρ : Type} (f : Int → Int → Int) (x : Int) (m : Res Int) (mk : Int → Res ρ) : Res ρ := m.bind fun y => mk (f x y)
def Lp.el {S π ρ : Type} (N : S → Res ρ) (R : π → Res ρ) : Lp S π → Res ρ
  | .nx s => N s
  | .rt r => R r
section
variable {α β γ δ ρ : Type} {K : PySem.W.Frag} {fm : Fm} {σ : L2.St} {G G' H H' : Hp} {O : Own}
variable {te ta tb tc : TE} {R : Rp α} {S : Rp β} {T : Rp γ} {m : Res α} {n : Res β}
variable {D : Ends} {tr tt tu tw : TS} {Q : ρ → Prop}
theorem g_ret0 (he : EvE K fm te σ G O R m) (hs : Hs fm G O H) {Q : α → Prop} (hm : m.wp Q fm.xw)
    (k : ∀ r v G' H', Hs fm G' O H' → R.r K G' v r → Q r → D.rt v H') : tSeq (tRet te) tr D σ H :=
  he G H (Same.refl _) hs.kn _ (Res.wp_mono hm (fun x q v G2 H2 s r => k x v G2 H2 (hs.stp s) r q) fun _ _ z => z)
theorem Hs.ne (h : Hs fm G O H) (i j : Nat) {a b : Addr} {o u : HO} (hi : O[i]? = some (a, o)) (hj : O[j]? = some (b, u)) (hij : i ≠ j) : b ≠ a := fun e => hij (nodup_at h.nd hi hj e.symm)
theorem Hs.none2 (h : Hs fm G O H) (i j : Nat) {a b : Addr} {o u : HO} (hi : O[i]? = some (a, o)) (hj : O[j]? = some (b, u)) (hij : i ≠ j) : upd G a o b = none := by
  rw [upd_ne (h.ne i j hi hj hij)]
  exact (h.at j hj).2.1
theorem nx_of (h : D.nx σ H) : tNext D σ H := h
theorem s_pass (h : tr D σ H) : tSeq tNext tr D σ H := h
theorem g_app {i : Nat} (j : Nat) {l : Addr} {vs : List V} {xs : List α} {m : Res α} {mk : List α → Res ρ} (hx : σ[i]? = some (some (.ref l))) (hj : O[j]? = some (l, .lst vs)) (hr : RLs R K G vs xs) (he : EvE K fm te σ G O R m) (hs : Hs fm G O H)
    (hm : (appM xs m mk).wp Q fm.xw)
    (k : ∀ y v G' H', Same G G' → Hs fm G' (O.set j (l, .lst (vs ++ [v]))) H' → RLs R K G' (vs ++ [v]) (xs ++ [y]) → (mk (xs ++ [y])).wp Q fm.xw → tr D σ H') : tSeq (tDrop (tBM K "list" rAppend (tVar i) (tCons te tNil))) tr D σ H := s_append j hx hj hr he hs hm k
theorem g_set {i : Nat} (j : Nat) {l : Addr} {vs : List V} {xs : List α} {m : Res α} {n : Res Int} {mk : List α → Res ρ} (hx : σ[i]? = some (some (.ref l))) (hj : O[j]? = some (l, .lst vs)) (hr : RLs R K G vs xs) (he : EvE K fm te σ G O R m) (hi : EvE K fm ta σ G O zI n) (hs : Hs fm G O H)
    (hm : (setM xs n m mk).wp Q fm.xw)
    (k : ∀ ys ws G' H', Same G G' → Hs fm G' (O.set j (l, .lst ws)) H' → RLs R K G' ws ys → (mk ys).wp Q fm.xw → tr D σ H') : tSeq (tAsg te (gSub (tVar i) ta rSetL)) tr D σ H := s_setL j hx hj hr he hi hs hm k
theorem g_aug {i : Nat} {f : Int → Int → Int} {x : Int} {m : Res Int} {mk : Int → Res ρ} (hx : σ[i]? = some (some (.int x))) (he : EvE K fm te σ G O zI m) (hs : Hs fm G O H) (hm : (augM f x m mk).wp Q fm.xw)
    (k : ∀ y G' H', Same G G' → Hs fm G' O H' → (mk (f x y)).wp Q fm.xw → tr D (σ.set i (some (.int (f x y)))) H') : tSeq (tAug i te (ipI f)) tr D σ H := s_aug hx he hs hm k
theorem g_forB {Oi : Own} {S : Type} {Sr : Type} {Rr : Rp Sr} {ti : TI} {g : TG} {Ss : Rps α} {is : List Nat} {m : Res (List α)} {f : α → S → Res (Tn S Sr)} {N : S → Res ρ} {Rt : Sr → Res ρ} {s0 : S} (W : S → L2.St → Hp → Own → Prop)
    (hi : EvI K fm ti σ G O Oi R m) (hO : ∀ s σ G O, W s σ G O → ∀ p ∈ Oi, p ∈ O) (tg : Tgt K g R Ss is) (hs : Hs fm G O H) (hm : ((m.bind fun xs => forB f xs s0).bind (Lp.el N Rt)).wp Q fm.xw) (h0 : W s0 σ G O)
    (hr : ∀ r v G2 O2 H2, Hs fm G2 O2 H2 → Rr.r K G2 v r → (Rt r).wp Q fm.xw → D.rt v H2)
    (hb : ∀ x s σ' G1 G' O' H' vs (D' : Ends) (Qb : Tn S Sr → Prop), Same G G' → W s σ' G1 O' → Same G1 G' → Hs fm G' O' H' → Ss.r K G' vs x → TEnds K fm G' W Rr Qb D' → (f x s).wp Qb fm.xw → tw D' (setL σ' is vs) H')
    (hn : ∀ s σ' G1 G' O' H', Same G G' → W s σ' G1 O' → Same G1 G' → Hs fm G' O' H' → (N s).wp Q fm.xw → tr D σ' H') : tSeq (tFor ti g tw) tr D σ H :=
  s_forB (π := Unit) W hi hO tg hs hm h0 hb hn hr
theorem g_forM {Oi : Own} {S : Type} {ti : TI} {g : TG} {Ss : Rps α} {is : List Nat} {m : Res (List α)} {f : α → S → Res S} {mk : S → Res ρ} {s0 : S} (W : S → L2.St → Hp → Own → Prop)
    (hi : EvI K fm ti σ G O Oi R m) (hO : ∀ s σ G O, W s σ G O → ∀ p ∈ Oi, p ∈ O) (tg : Tgt K g R Ss is) (hs : Hs fm G O H) (hm : ((m.bind fun xs => forM f xs s0).bind mk).wp Q fm.xw) (h0 : W s0 σ G O)
    (hb : ∀ x s σ' G1 G' O' H' vs (D' : Ends) (Qb : S → Prop), Same G G' → W s σ' G1 O' → Same G1 G' → Hs fm G' O' H' → Ss.r K G' vs x → MEnds fm G' W Qb D' → (f x s).wp Qb fm.xw → tw D' (setL σ' is vs) H')
    (hn : ∀ s σ' G1 G' O' H', Same G G' → W s σ' G1 O' → Same G1 G' → Hs fm G' O' H' → (mk s).wp Q fm.xw → tr D σ' H') : tSeq (tFor ti g tw) tr D σ H := s_forM W hi hO tg hs hm h0 hb hn
theorem g_whB {S : Type} {Sr : Type} {Rr : Rp Sr} {c : TT} {mc : S → Res Bool} {f : S → Res (Tn S Sr)} {N : S → Res ρ} {Rt : Sr → Res ρ} {s0 : S} {fuel : Nat} (W : S → L2.St → Hp → Own → Prop)
    (hs : Hs fm G O H) (hm : ((whB mc f fuel s0).bind (Lp.el N Rt)).wp Q fm.xw) (h0 : W s0 σ G O)
    (hr : ∀ r v G2 O2 H2, Hs fm G2 O2 H2 → Rr.r K G2 v r → (Rt r).wp Q fm.xw → D.rt v H2)
    (hc : ∀ s σ' G1 G' O', Same G G' → W s σ' G1 O' → Same G1 G' → EvT fm c σ' G' O' (mc s))
    (hb : ∀ s σ' G1 G' O' H' (D' : Ends) (Qb : Tn S Sr → Prop), Same G G' → W s σ' G1 O' → Same G1 G' → Hs fm G' O' H' → TEnds K fm G' W Rr Qb D' → (f s).wp Qb fm.xw → tw D' σ' H')
    (hn : ∀ s σ' G1 G' O' H', Same G G' → W s σ' G1 O' → Same G1 G' → Hs fm G' O' H' → (N s).wp Q fm.xw → tr D σ' H') : tSeq (tWhile c tw) tr D σ H := s_whB W hs hm h0 hc hb hn hr
end

/-! ### the same over a word that is not opened by itself -/
theorem Wp.ofSp {α : Type} {m : Res α} {Q : α → Prop} {F G0 : Hp} {E : XK} {cl : Nat → Addr} (h : Wp m Q fun c fs => ∀ H' d, Same F H' → XdOk fs d H' → E (.ref (cl c)) d H') : Wp m Q (Fm.xw ⟨F, G0, E, cl⟩) := .mk h.out
section
variable {α β γ δ ρ : Type} {K : PySem.W.Frag} {fm : Fm} {σ : L2.St} {G G' H H' : Hp} {O : Own}
variable {te ta tb tc : TE} {R : Rp α} {S : Rp β} {T : Rp γ} {m : Res α} {n : Res β}
variable {D : Ends} {tr tt tu tw : TS} {Q : ρ → Prop}
theorem w_asg {g : TG} {Ss : Rps α} {is : List Nat} {mk : α → Res ρ} (tg : Tgt K g R Ss is) (he : EvE K fm te σ G O R m) (hs : Hs fm G O H) (hm : Wp (m.bind mk) Q fm.xw)
    (k : ∀ x vs G' H', Same G G' → Hs fm G' O H' → Ss.r K G' vs x → Wp (mk x) Q fm.xw → tr D (setL σ is vs) H') : tSeq (tAsg te g) tr D σ H :=
  s_asg tg he hs hm.out fun x vs G' H' a b c d => k x vs G' H' a b c (.mk d)
theorem w_asgN {i : Nat} {m : Res (List α)} {mk : List α → Res ρ} (he : EvN K fm te σ G O R m) (hs : Hs fm G O H) (hm : Wp (m.bind mk) Q fm.xw)
    (k : ∀ xs p vs G' H', Same G G' → Hs fm G' ((p, .lst vs) :: O) H' → RLs R K G' vs xs → Wp (mk xs) Q fm.xw → tr D (σ.set i (some (.ref p))) H') : tSeq (tAsg te (gName i)) tr D σ H :=
  s_asgN he hs hm.out fun x p vs G' H' a b c d => k x p vs G' H' a b c (.mk d)
theorem w_aug {i : Nat} {f : Int → Int → Int} {x : Int} {m : Res Int} {mk : Int → Res ρ} (hx : σ[i]? = some (some (.int x))) (he : EvE K fm te σ G O zI m) (hs : Hs fm G O H) (hm : Wp (augM f x m mk) Q fm.xw)
    (k : ∀ y G' H', Same G G' → Hs fm G' O H' → Wp (mk (f x y)) Q fm.xw → tr D (σ.set i (some (.int (f x y)))) H') : tSeq (tAug i te (ipI f)) tr D σ H :=
  g_aug hx he hs hm.out fun y G' H' a b c => k y G' H' a b (.mk c)
theorem w_drop {mk : α → Res ρ} (he : EvE K fm te σ G O R m) (hs : Hs fm G O H) (hm : Wp (m.bind mk) Q fm.xw)
    (k : ∀ x G' H', Same G G' → Hs fm G' O H' → Wp (mk x) Q fm.xw → tr D σ H') : tSeq (tDrop te) tr D σ H := s_drop he hs hm.out fun x G' H' a b c => k x G' H' a b (.mk c)
theorem w_ret {kr : α → ρ} (he : EvE K fm te σ G O R m) (hs : Hs fm G O H) (hm : Wp (m.bind fun r => .ok (kr r)) Q fm.xw)
    (k : ∀ r v G' H', Hs fm G' O H' → R.r K G' v r → Q (kr r) → D.rt v H') : tSeq (tRet te) tr D σ H := s_ret he hs hm.out k
theorem w_ret0 (he : EvE K fm te σ G O R m) (hs : Hs fm G O H) {Q : α → Prop} (hm : Wp m Q fm.xw)
    (k : ∀ r v G' H', Hs fm G' O H' → R.r K G' v r → Q r → D.rt v H') : tSeq (tRet te) tr D σ H := g_ret0 he hs hm.out k
theorem w_if {c : TT} {mc : Res Bool} {a b : Res ρ} (hc : EvT fm c σ G O mc) (hs : Hs fm G O H) (hm : Wp (Res.ite mc a b) Q fm.xw)
    (h1 : ∀ G' H', Same G G' → Hs fm G' O H' → Wp a Q fm.xw → tt { D with nx := tr D } σ H') (h2 : ∀ G' H', Same G G' → Hs fm G' O H' → Wp b Q fm.xw → tu { D with nx := tr D } σ H') : tSeq (tIfS c tt tu) tr D σ H :=
  s_if hc hs hm.out (fun G' H' a b c => h1 G' H' a b (.mk c)) fun G' H' a b c => h2 G' H' a b (.mk c)
theorem w_ifJ {J : Type} {c : TT} {mc : Res Bool} {a b : Res ρ} {k : J → Res ρ} (W : J → L2.St → Hp → Own → Prop) (hc : EvT fm c σ G O mc) (hs : Hs fm G O H) (hm : Wp (Res.ite mc a b) Q fm.xw)
    (hk : ∀ s σ' G1 G' O' H', Same G G' → W s σ' G1 O' → Same G1 G' → Hs fm G' O' H' → Wp (k s) Q fm.xw → tr D σ' H')
    (h1 : ∀ G' H', JEnds fm G' W (fun s => Wp (k s) Q fm.xw) (tr D) → Same G G' → Hs fm G' O H' → Wp a Q fm.xw → tt { D with nx := tr D } σ H')
    (h2 : ∀ G' H', JEnds fm G' W (fun s => Wp (k s) Q fm.xw) (tr D) → Same G G' → Hs fm G' O H' → Wp b Q fm.xw → tu { D with nx := tr D } σ H') : tSeq (tIfS c tt tu) tr D σ H :=
  w_if hc hs hm (fun G' H' e hs' q => h1 G' H' ⟨fun s σ G1 G2 O H a b c d e' => hk s σ G1 G2 O H (e.trans a) b c d e'⟩ e hs' q) fun G' H' e hs' q => h2 G' H' ⟨fun s σ G1 G2 O H a b c d e' => hk s σ G1 G2 O H (e.trans a) b c d e'⟩ e hs' q
theorem w_app {i : Nat} (j : Nat) {l : Addr} {vs : List V} {xs : List α} {m : Res α} {mk : List α → Res ρ} (hx : σ[i]? = some (some (.ref l))) (hj : O[j]? = some (l, .lst vs)) (hr : RLs R K G vs xs) (he : EvE K fm te σ G O R m) (hs : Hs fm G O H)
    (hm : Wp (appM xs m mk) Q fm.xw)
    (k : ∀ y v G' H', Same G G' → Hs fm G' (O.set j (l, .lst (vs ++ [v]))) H' → RLs R K G' (vs ++ [v]) (xs ++ [y]) → Wp (mk (xs ++ [y])) Q fm.xw → tr D σ H') : tSeq (tDrop (tBM K "list" rAppend (tVar i) (tCons te tNil))) tr D σ H :=
  g_app j hx hj hr he hs hm.out fun y v G' H' a b c d => k y v G' H' a b c (.mk d)
theorem w_set {i : Nat} (j : Nat) {l : Addr} {vs : List V} {xs : List α} {m : Res α} {n : Res Int} {mk : List α → Res ρ} (hx : σ[i]? = some (some (.ref l))) (hj : O[j]? = some (l, .lst vs)) (hr : RLs R K G vs xs) (he : EvE K fm te σ G O R m) (hi : EvE K fm ta σ G O zI n) (hs : Hs fm G O H)
    (hm : Wp (setM xs n m mk) Q fm.xw)
    (k : ∀ ys ws G' H', Same G G' → Hs fm G' (O.set j (l, .lst ws)) H' → RLs R K G' ws ys → Wp (mk ys) Q fm.xw → tr D σ H') : tSeq (tAsg te (gSub (tVar i) ta rSetL)) tr D σ H :=
  g_set j hx hj hr he hi hs hm.out fun y v G' H' a b c d => k y v G' H' a b c (.mk d)
theorem w_forB {Oi : Own} {S : Type} {Sr : Type} {Rr : Rp Sr} {ti : TI} {g : TG} {Ss : Rps α} {is : List Nat} {m : Res (List α)} {f : α → S → Res (Tn S Sr)} {N : S → Res ρ} {Rt : Sr → Res ρ} {s0 : S} (W : S → L2.St → Hp → Own → Prop)
    (hi : EvI K fm ti σ G O Oi R m) (hO : ∀ s σ G O, W s σ G O → ∀ p ∈ Oi, p ∈ O) (tg : Tgt K g R Ss is) (hs : Hs fm G O H) (hm : Wp ((m.bind fun xs => forB f xs s0).bind (Lp.el N Rt)) Q fm.xw) (h0 : W s0 σ G O)
    (hr : ∀ r v G2 O2 H2, Hs fm G2 O2 H2 → Rr.r K G2 v r → (Rt r).wp Q fm.xw → D.rt v H2)
    (hb : ∀ x s σ' G1 G' O' H' vs (D' : Ends) (Qb : Tn S Sr → Prop), Same G G' → W s σ' G1 O' → Same G1 G' → Hs fm G' O' H' → Ss.r K G' vs x → TEnds K fm G' W Rr Qb D' → Wp (f x s) Qb fm.xw → tw D' (setL σ' is vs) H')
    (hn : ∀ s σ' G1 G' O' H', Same G G' → W s σ' G1 O' → Same G1 G' → Hs fm G' O' H' → Wp (N s) Q fm.xw → tr D σ' H') : tSeq (tFor ti g tw) tr D σ H :=
  g_forB W hi hO tg hs hm.out h0 hr (fun x s σ' G1 G' O' H' vs D' Qb a b c d e f g => hb x s σ' G1 G' O' H' vs D' Qb a b c d e f (.mk g)) fun s σ' G1 G' O' H' a b c d e => hn s σ' G1 G' O' H' a b c d (.mk e)
theorem w_forM {Oi : Own} {S : Type} {ti : TI} {g : TG} {Ss : Rps α} {is : List Nat} {m : Res (List α)} {f : α → S → Res S} {mk : S → Res ρ} {s0 : S} (W : S → L2.St → Hp → Own → Prop)
    (hi : EvI K fm ti σ G O Oi R m) (hO : ∀ s σ G O, W s σ G O → ∀ p ∈ Oi, p ∈ O) (tg : Tgt K g R Ss is) (hs : Hs fm G O H) (hm : Wp ((m.bind fun xs => forM f xs s0).bind mk) Q fm.xw) (h0 : W s0 σ G O)
    (hb : ∀ x s σ' G1 G' O' H' vs (D' : Ends) (Qb : S → Prop), Same G G' → W s σ' G1 O' → Same G1 G' → Hs fm G' O' H' → Ss.r K G' vs x → MEnds fm G' W Qb D' → Wp (f x s) Qb fm.xw → tw D' (setL σ' is vs) H')
    (hn : ∀ s σ' G1 G' O' H', Same G G' → W s σ' G1 O' → Same G1 G' → Hs fm G' O' H' → Wp (mk s) Q fm.xw → tr D σ' H') : tSeq (tFor ti g tw) tr D σ H :=
  g_forM W hi hO tg hs hm.out h0 (fun x s σ' G1 G' O' H' vs D' Qb a b c d e f g => hb x s σ' G1 G' O' H' vs D' Qb a b c d e f (.mk g)) fun s σ' G1 G' O' H' a b c d e => hn s σ' G1 G' O' H' a b c d (.mk e)
theorem w_whB {S : Type} {Sr : Type} {Rr : Rp Sr} {c : TT} {mc : S → Res Bool} {f : S → Res (Tn S Sr)} {N : S → Res ρ} {Rt : Sr → Res ρ} {s0 : S} {fuel : Nat} (W : S → L2.St → Hp → Own → Prop)
    (hs : Hs fm G O H) (hm : Wp ((whB mc f fuel s0).bind (Lp.el N Rt)) Q fm.xw) (h0 : W s0 σ G O)
    (hr : ∀ r v G2 O2 H2, Hs fm G2 O2 H2 → Rr.r K G2 v r → (Rt r).wp Q fm.xw → D.rt v H2)
    (hc : ∀ s σ' G1 G' O', Same G G' → W s σ' G1 O' → Same G1 G' → EvT fm c σ' G' O' (mc s))
    (hb : ∀ s σ' G1 G' O' H' (D' : Ends) (Qb : Tn S Sr → Prop), Same G G' → W s σ' G1 O' → Same G1 G' → Hs fm G' O' H' → TEnds K fm G' W Rr Qb D' → Wp (f s) Qb fm.xw → tw D' σ' H')
    (hn : ∀ s σ' G1 G' O' H', Same G G' → W s σ' G1 O' → Same G1 G' → Hs fm G' O' H' → Wp (N s) Q fm.xw → tr D σ' H') : tSeq (tWhile c tw) tr D σ H :=
  g_whB W hs hm.out h0 hr hc (fun s σ' G1 G' O' H' D' Qb a b c d e f => hb s σ' G1 G' O' H' D' Qb a b c d e (.mk f)) fun s σ' G1 G' O' H' a b c d e => hn s σ' G1 G' O' H' a b c d (.mk e)
end
/-- a def as its callers take it -/
structure Cal (P : Program) (w : World) (K : PySem.W.Frag) (mg : Str → Option Value) (base : Heap) (x : Str) (k : Nat) (ps : List Str) (sp : Sp) where
  f : Addr
  fd : FuncData
  ok : FnOk P w K mg base (L2.CX P w) k f fd ps sp
  mgx : mg x = some (.ref f)
  kp : PySem.W.keepIn K (.ref f) = true
  bd : Binds K fd ps []
theorem b_len : bootBuiltins "len" = some (.builtin "len") := by decide +kernel
theorem b_sum : bootBuiltins "sum" = some (.builtin "sum") := by decide +kernel
theorem b_any : bootBuiltins "any" = some (.builtin "any") := by decide +kernel
theorem b_all : bootBuiltins "all" = some (.builtin "all") := by decide +kernel
theorem b_max : bootBuiltins "max" = some (.builtin "max") := by decide +kernel
theorem b_min : bootBuiltins "min" = some (.builtin "min") := by decide +kernel
theorem b_isinstance : bootBuiltins "isinstance" = some (.builtin "isinstance") := by decide +kernel
theorem b_int : bootBuiltins "int" = some (.type "int") := by decide +kernel
theorem b_list : bootBuiltins "list" = some (.type "list") := by decide +kernel
theorem b_tuple : bootBuiltins "tuple" = some (.type "tuple") := by decide +kernel
theorem b_range : bootBuiltins "range" = some (.type "range") := by decide +kernel
theorem b_bool : bootBuiltins "bool" = some (.type "bool") := by decide +kernel
theorem b_str : bootBuiltins "str" = some (.type "str") := by decide +kernel
end Mw
namespace Mw
open PySem L2
theorem isi_OI_int : ∀ x : Option Int, kitB (match x with | none => "NoneType" | some _ => "int") "int" = some x.isSome
  | none => (by decide +kernel : kitB "NoneType" "int" = some false)
  | some _ => (by decide +kernel : kitB "int" "int" = some true)
theorem isi_OI_bool : ∀ x : Option Int, kitB (match x with | none => "NoneType" | some _ => "int") "bool" = some false
  | none => (by decide +kernel : kitB "NoneType" "bool" = some false)
  | some _ => (by decide +kernel : kitB "int" "bool" = some false)
end Mw

namespace Mw
open PySem PySem.Spec PyProof.Rows L2
/-! ### dicts of one's own -/
def dget {κ β : Type} [DecidableEq κ] (xs : List (κ × β)) (k : κ) : Option β := (xs.find? fun p => decide (p.1 = k)).map (·.2)
def dput {κ β : Type} [DecidableEq κ] (xs : List (κ × β)) (k : κ) (v : β) : List (κ × β) := if (xs.any fun p => decide (p.1 = k)) = true then xs.map fun p => if p.1 = k then (p.1, v) else p else xs ++ [(k, v)]
/-- keys that are one of the layer's -/
structure Ke (κ : Type) [DecidableEq κ] where
  enc : κ → Key
  inj : ∀ {a b}, enc a = enc b → a = b
  rp : Rp κ
  is : ∀ {K G v k}, rp.r K G v k ↔ v = kV (enc k)
def keI : Ke Int := ⟨.inl, fun h => Sum.inl.inj h, zI, Iff.rfl⟩
def keS : Ke Str := ⟨.inr, fun h => Sum.inr.inj h, rS, Iff.rfl⟩
section
variable {α β γ δ ρ κ : Type} [DecidableEq κ] {K : PySem.W.Frag} {fm : Fm} {σ : L2.St} {G G' H H' : Hp} {O : Own}
variable {te ta tb tc : TE} {R : Rp α} {S : Rp β} {T : Rp γ} {m : Res α} {n : Res β}
variable {D : Ends} {tr tt tu tw : TS} {Q : ρ → Prop}
abbrev RKs (k : Ke κ) (R : Rp β) (K : PySem.W.Frag) (G : Hp) : List (Key × V) → List (κ × β) → Prop := Paired fun p x => p.1 = k.enc x.1 ∧ R.r K G p.2 x.2
theorem RKs.mono {k : Ke κ} {R : Rp β} {vs : List (Key × V)} {xs : List (κ × β)} (e : Same G G') (h : RKs k R K G vs xs) : RKs k R K G' vs xs := Paired.mapP h fun _ _ q => ⟨q.1, R.mono e q.2⟩
theorem RKs.any {k : Ke κ} {R : Rp β} {vs : List (Key × V)} {xs : List (κ × β)} (h : RKs k R K G vs xs) (y : κ) : (vs.any fun p => decide (p.1 = k.enc y)) = xs.any fun p => decide (p.1 = y) := by
  induction h with
  | nil => rfl
  | cons r t ih => rw [List.any_cons, List.any_cons, ih, r.1]; congr 1; exact decide_eq_decide.mpr ⟨k.inj, fun e => by rw [e]⟩
theorem RKs.get {k : Ke κ} {R : Rp β} {vs : List (Key × V)} {xs : List (κ × β)} (h : RKs k R K G vs xs) (y : κ) :
    match dget xs y with | some b => ∃ v, valV vs (k.enc y) = some v ∧ R.r K G v b | none => valV vs (k.enc y) = none := by
  induction h with
  | nil => rfl
  | @cons p x vs xs r t ih =>
    by_cases e : x.1 = y
    · have : dget (x :: xs) y = some x.2 := by simp [dget, List.find?_cons, e]
      rw [this]
      exact ⟨p.2, valV_pos (r.1.trans (by rw [e])), r.2⟩
    · have : dget (x :: xs) y = dget xs y := by simp [dget, List.find?_cons, e]
      rw [this, valV_neg (fun q => e (k.inj (r.1.symm.trans q)))]
      exact ih
theorem RKs.isSome {k : Ke κ} {R : Rp β} {vs : List (Key × V)} {xs : List (κ × β)} (h : RKs k R K G vs xs) (y : κ) : (valV vs (k.enc y)).isSome = (dget xs y).isSome := by
  have q := h.get y
  cases e : dget xs y with
  | none => rw [e] at q; rw [show valV vs (k.enc y) = none from q]; rfl
  | some b => rw [e] at q; obtain ⟨v, hv, _⟩ := q; rw [hv]; rfl
theorem RKs.rep {k : Ke κ} {R : Rp β} {vs : List (Key × V)} {xs : List (κ × β)} (h : RKs k R K G vs xs) (y : κ) {v : V} {b : β} (r : R.r K G v b) :
    RKs k R K G (vs.map fun p => if p.1 = k.enc y then (p.1, v) else p) (xs.map fun p => if p.1 = y then (p.1, b) else p) := by
  induction h with
  | nil => exact .nil
  | @cons p x vs xs q t ih =>
    refine .cons ?_ ih
    by_cases e : x.1 = y
    · dsimp only; rw [if_pos e, if_pos (q.1.trans (by rw [e]))]; exact ⟨q.1, r⟩
    · dsimp only; rw [if_neg e, if_neg (fun z => e (k.inj (q.1.symm.trans z)))]; exact q
theorem RKs.put {k : Ke κ} {R : Rp β} {vs : List (Key × V)} {xs : List (κ × β)} (h : RKs k R K G vs xs) (y : κ) {v : V} {b : β} (r : R.r K G v b) : RKs k R K G (putK vs (k.enc y) v) (dput xs y b) := by
  unfold putK dput
  rw [h.any y]
  split
  · exact RKs.rep h y r
  · exact paired_app h (.cons ⟨rfl, r⟩ .nil)
/-- {} -/
def EvD (K : PySem.W.Frag) (fm : Fm) (te : TE) (σ : L2.St) (G : Hp) (O : Own) : Prop :=
  ∀ G1 H1, Same G G1 → Kn fm G1 O H1 → ∀ Q : VK, (∀ p G2 H2, Stp G1 H1 G2 H2 → H1 p = none → G2 p = none → H2 p = some (.dK []) → Q (.ref p) H2) → te σ H1 Q
theorem d_new : EvD K fm tDNewK σ G O := fun G1 H1 e k Q q p hp => q p G1 _ (Stp.grow k.gh (same_new hp)) hp (same_back k.gh hp) upd_same
theorem w_asgD {i : Nat} {k : Ke κ} {R : Rp β} {mk : List (κ × β) → Res ρ} (he : EvD K fm te σ G O) (hs : Hs fm G O H) (hm : Wp ((Res.ok []).bind mk) Q fm.xw)
    (kk : ∀ xs p vs G' H', Same G G' → Hs fm G' ((p, .dK vs) :: O) H' → RKs k R K G' vs xs → Wp (mk xs) Q fm.xw → tr D (σ.set i (some (.ref p))) H') : tSeq (tAsg te (gName i)) tr D σ H :=
  he G H (Same.refl _) hs.kn _ fun p G2 H2 s hp gp hl => kk [] p [] G2 H2 s.gg (hs.new s hp gp hl) .nil hm
def dputM {κ β ρ : Type} [DecidableEq κ] (xs : List (κ × β)) (n : Res κ) (m : Res β) (mk : List (κ × β) → Res ρ) : Res ρ := m.bind fun y => n.bind fun z => if xs.length < lim then mk (dput xs z y) else .stuck
theorem w_dput {i : Nat} (j : Nat) {l : Addr} {k : Ke κ} {R : Rp β} {vs : List (Key × V)} {xs : List (κ × β)} {m : Res β} {n : Res κ} {mk : List (κ × β) → Res ρ} (hx : σ[i]? = some (some (.ref l))) (hj : O[j]? = some (l, .dK vs)) (hr : RKs k R K G vs xs)
    (he : EvE K fm te σ G O R m) (hi : EvE K fm ta σ G O k.rp n) (hs : Hs fm G O H) (hm : Wp (dputM xs n m mk) Q fm.xw)
    (kk : ∀ ys ws G' H', Same G G' → Hs fm G' (O.set j (l, .dK ws)) H' → RKs k R K G' ws ys → Wp (mk ys) Q fm.xw → tr D σ H') : tSeq (sDPut (tVar i) ta te) tr D σ H :=
  he G H (Same.refl _) hs.kn _ (Res.wp_mono (Res.wp_bind hm.out) (fun y q v G2 H2 s r => ⟨_, hx, hi G2 H2 s.gg (hs.stp s).kn _ (Res.wp_mono (Res.wp_bind q) (fun z q v' G3 H3 s' r' => by
    have ss := s.trans s'
    rw [k.is.mp r']
    by_cases hl : xs.length < lim
    · rw [if_pos hl] at q
      exact ⟨l, _, rfl, DPut.k (ss.hh _ _ (hs.at j hj).1) (by rw [Paired.length hr, ← lim_eq]; exact hl), kk _ _ G3 _ ss.gg ((hs.stp ss).set j hj) ((hr.mono ss.gg).put z (R.mono s'.gg r)) (.mk q)⟩
    · rw [if_neg hl] at q; exact q.elim) fun _ _ z => z)⟩) fun _ _ z => z)
/-- the cell holds the dict, locked or not -/
def CellD (c : HO) (vs : List (Key × V)) : Prop := c = .dK vs ∨ ∃ od, c = .frz od (.dK vs)
theorem CellD.rd {c : HO} {vs : List (Key × V)} (h : CellD c vs) {l : Addr} (e : H l = some c) : Rd H l (.dK vs) := by
  rcases h with h | ⟨od, h⟩
  · subst h; exact .inl e
  · subst h; exact .inr ⟨od, e⟩
theorem e_lenD {i : Nat} {l : Addr} {k : Ke κ} {R : Rp β} {vs : List (Key × V)} {xs : List (κ × β)} (h : σ[i]? = some (some (.ref l))) (hl : (l, HO.dK vs) ∈ O) (r : RKs k R K G vs xs) :
    EvE K fm (tCB (fun xs H Q => ∃ a kvs, xs = [V.ref a] ∧ H a = some (.dK kvs) ∧ Q (.int kvs.length) H) (tCons (tVar i) tNil)) σ G O zI (.ok (xs.length : Int)) := fun G1 H1 e kn Q q =>
  ⟨_, h, l, vs, rfl, kn.own _ hl, q _ G1 H1 (Stp.refl kn.gh) (by show V.int _ = V.int _; rw [Paired.length r])⟩
def dgetM {κ β : Type} [DecidableEq κ] (xs : List (κ × β)) (n : Res κ) : Res β := n.bind fun k => optM (dget xs k)
theorem e_dget {i : Nat} {l : Addr} {c : HO} {k : Ke κ} {R : Rp β} {vs : List (Key × V)} {xs : List (κ × β)} {n : Res κ} (h : σ[i]? = some (some (.ref l))) (hl : (l, c) ∈ O) (hc : CellD c vs) (r : RKs k R K G vs xs) (hi : EvE K fm ta σ G O k.rp n) :
    EvE K fm (tDGet (tVar i) ta) σ G O R (dgetM xs n) := fun G1 H1 e kn Q q =>
  ⟨_, h, hi G1 H1 e kn _ (Res.wp_mono (Res.wp_bind q) (fun y q v G2 H2 s rv => by
    rw [k.is.mp rv]
    have g := r.get y
    cases eg : dget xs y with
    | none => rw [eg] at q; exact q.elim
    | some b =>
      rw [eg] at q g
      obtain ⟨w, hw, rw'⟩ := g
      exact ⟨l, w, rfl, .inl ⟨vs, k.enc y, hc.rd ((kn.stp s).own _ hl), rfl, hw.symm⟩, q w G2 H2 s (R.mono (e.trans s.gg) rw')⟩) fun _ _ z => z)⟩
def dinM {κ β : Type} [DecidableEq κ] (xs : List (κ × β)) (n : Res κ) : Res Bool := n.bind fun k => .ok (dget xs k).isSome
theorem e_din {i : Nat} {l : Addr} {c : HO} {k : Ke κ} {R : Rp β} {vs : List (Key × V)} {xs : List (κ × β)} {n : Res κ} (h : σ[i]? = some (some (.ref l))) (hl : (l, c) ∈ O) (hc : CellD c vs) (r : RKs k R K G vs xs) (hi : EvE K fm ta σ G O k.rp n) :
    EvE K fm (tDIn ta (tVar i)) σ G O rB (dinM xs n) := fun G1 H1 e kn Q q =>
  hi G1 H1 e kn _ (Res.wp_mono (Res.wp_bind q) (fun y q v G2 H2 s rv => ⟨_, h, l, valV vs (k.enc y), rfl, .inl ⟨vs, k.enc y, hc.rd ((kn.stp s).own _ hl), k.is.mp rv, rfl⟩, q _ G2 H2 s (by show V.bl _ = V.bl _; rw [r.isSome])⟩) fun _ _ z => z)
theorem e_dnin {i : Nat} {l : Addr} {c : HO} {k : Ke κ} {R : Rp β} {vs : List (Key × V)} {xs : List (κ × β)} {n : Res κ} (h : σ[i]? = some (some (.ref l))) (hl : (l, c) ∈ O) (hc : CellD c vs) (r : RKs k R K G vs xs) (hi : EvE K fm ta σ G O k.rp n) :
    EvE K fm (tDNotIn ta (tVar i)) σ G O rB (notM (dinM xs n)) := fun G1 H1 e kn Q q =>
  hi G1 H1 e kn _ (Res.wp_mono (Res.wp_bind (Res.wp_bind q)) (fun y q v G2 H2 s rv => ⟨_, h, l, valV vs (k.enc y), rfl, .inl ⟨vs, k.enc y, hc.rd ((kn.stp s).own _ hl), k.is.mp rv, rfl⟩, q _ G2 H2 s (by show V.bl _ = V.bl _; rw [r.isSome])⟩) fun _ _ z => z)
/-! for k in d -/
theorem itk_ok {l : Addr} {od : Obj} {k : Ke κ} {R : Rp β} {vs : List (Key × V)} {xs : List (κ × β)} (r : RKs k R K G vs xs) : ItOk K G [(l, .frz od (.dK vs))] k.rp (Itk l od vs) (xs.map (·.1)) where
  go := fun i G1 H a b ho hi => ⟨ho _ List.mem_cons_self, by rw [Paired.length r]; simpa using hi⟩
  stop := fun G1 H a b ho => ⟨ho _ List.mem_cons_self, by rw [Paired.length r]; simp⟩
  yld := fun i G1 H v H' a b ho hi y => by
    obtain ⟨e, kk, w, hk, ev⟩ := y
    subst e ev
    obtain ⟨x, hx, q, _⟩ := paired_get r hk
    exact ⟨x.1, G1, by rw [List.getElem?_map, hx]; rfl, Stp.refl b, k.is.mpr (by rw [← q])⟩
theorem w_lockM {S : Type} {i : Nat} (j : Nat) {d : Addr} {k : Ke κ} {R : Rp β} {vs : List (Key × V)} {xs : List (κ × β)} {g : TG} {Ss : Rps κ} {is : List Nat} {f : κ → S → Res S} {mk : S → Res ρ} {s0 : S} (W : Obj → S → L2.St → Hp → Own → Prop)
    (hx : σ[i]? = some (some (.ref d))) (hj : O[j]? = some (d, .dK vs)) (hr : RKs k R K G vs xs) (tg : Tgt K g k.rp Ss is) (hs : Hs fm G O H) (hm : Wp (((Res.ok (xs.map (·.1))).bind fun ks => forM f ks s0).bind mk) Q fm.xw)
    (hW : ∀ od s σ G O, W od s σ G O → O[j]? = some (d, .frz od (.dK vs))) (h0 : ∀ od, W od s0 σ G (O.set j (d, .frz od (.dK vs))))
    (hb : ∀ od x s σ' G1 G' O' H' vs (D' : Ends) (Qb : S → Prop), Same G G' → W od s σ' G1 O' → Same G1 G' → Hs fm G' O' H' → Ss.r K G' vs x → MEnds fm G' (W od) Qb D' → Wp (f x s) Qb fm.xw → tw D' (setL σ' is vs) H')
    (hn : ∀ od s σ' G1 G' O' H', Same G G' → W od s σ' G1 O' → Same G1 G' → Hs fm G' (O'.set j (d, .dK vs)) H' → Wp (mk s) Q fm.xw → tr D σ' H') : tSeq (tLock (tFor (iKeys (tVar i)) g tw)) tr D σ H := by
  refine ⟨d, .dK vs, (hs.at j hj).1, trivial, fun od => ?_⟩
  have hs1 := hs.set j (o' := .frz od (.dK vs)) hj
  have hj1 : (O.set j (d, HO.frz od (.dK vs)))[j]? = some (d, .frz od (.dK vs)) := List.getElem?_set_self (List.getElem?_eq_some_iff.mp hj).1
  have hi : EvI K fm (iKeys (tVar i)) σ G (O.set j (d, .frz od (.dK vs))) [(d, .frz od (.dK vs))] k.rp (Res.ok (xs.map (·.1))) := fun G1 H1 e kn Q q =>
    ⟨_, hx, d, od, rfl, .inl ⟨vs, kn.own _ (List.mem_of_getElem? hj1), q _ G1 H1 (Stp.refl kn.gh) (itk_ok (hr.mono e))⟩⟩
  have key := w_forM (K := K) (D := { nx := fun σ' H' => H' d = some (.frz od (.dK vs)) ∧ tr D σ' (upd H' d (.dK vs)), rt := fun v H' => H' d = some (.frz od (.dK vs)) ∧ D.rt v (upd H' d (.dK vs)), bk := fun σ' H' => H' d = some (.frz od (.dK vs)) ∧ D.bk σ' (upd H' d (.dK vs)), ct := fun σ' H' => H' d = some (.frz od (.dK vs)) ∧ D.ct σ' (upd H' d (.dK vs)) })
    (tr := tNext) (tw := tw) (W od) hi (fun s σ G O w p hp => by
      rw [List.mem_singleton.mp hp]
      exact List.mem_of_getElem? (hW od s σ G O w)) tg hs1 hm (h0 od) (hb od) fun s σ' G1 G' O' H' a w c hs' q => by
      have hj' := hW od s σ' G1 O' w
      exact ⟨(hs'.at j hj').1, hn od s σ' G1 G' O' _ a w c (hs'.set j hj') q⟩
  exact key
end
end Mw

namespace Mw
open PySem PySem.Spec PyProof.Rows L2
/-! ### a list that the callee has made -/
def rF {α : Type} (F : Hp) (R : Rp α) : Rp (List α) := ⟨fun K G v xs => ∃ p vs, v = .ref p ∧ F p = none ∧ G p = some (.lst vs) ∧ RLs R K G vs xs, fun e ⟨p, vs, a, b, c, d⟩ => ⟨p, vs, a, b, e _ _ c, d.mono e⟩⟩
/-- a result that may tell what is new since the entry -/
def Anti {β : Type} (Rf : Hp → Rp β) : Prop := ∀ F F' K G v y, Same F F' → (Rf F').r K G v y → (Rf F).r K G v y
def spPF {α β : Type} (K : PySem.W.Frag) (cl : Nat → Addr) (S : Rps α) (Rf : Hp → Rp β) (f : α → Res β) : Sp := fun vs H Q E => ∃ G a, Same G H ∧ S.r K G vs a ∧
  Wp (f a) (fun y => ∀ v G' H', Stp G H G' H' → (Rf H).r K G' v y → Q v H') (fun c fs => ∀ H' d, Same H H' → XdOk fs d H' → E (.ref (cl c)) d H')
theorem an_F {α : Type} {R : Rp α} : Anti fun F => rF F R := fun F F' K G v y e ⟨p, vs, a, b, c, d⟩ => ⟨p, vs, a, same_back e b, c, d⟩
theorem an_R {α : Type} {R : Rp α} : Anti fun _ => R := fun F F' K G v y e h => h
theorem an_P2 {α β : Type} {R : Hp → Rp α} {S : Hp → Rp β} (h1 : Anti R) (h2 : Anti S) : Anti fun F => rP2 (R F) (S F) := fun F F' K G v y e ⟨p, vs, a, b, v1, r, c, d, v2, f, g⟩ => ⟨p, vs, a, b, v1, r, c, h1 F F' K G _ _ e d, v2, f, h2 F F' K G _ _ e g⟩
section
variable {α β γ δ ρ : Type} {K : PySem.W.Frag} {fm : Fm} {σ : L2.St} {G G' H H' : Hp} {O : Own}
variable {te ta tb tc : TE} {R : Rp α} {S : Rp β} {T : Rp γ} {m : Res α} {n : Res β}
variable {D : Ends} {tr tt tu tw : TS} {Q : ρ → Prop}
theorem e_callF {S : Rps α} {f : α → Res β} {Rf : Hp → Rp β} {t : TA} (an : Anti Rf) (h : EvA K fm t σ G O S m) : EvE K fm (tCall (spPF K fm.cl S Rf f) [] fm.E t) σ G O (Rf fm.F) (m.bind f) := fun G1 H1 e k Q q =>
  h G1 H1 e k _ (Res.wp_mono (Res.wp_bind q) (fun x q vs G2 H2 s r => ⟨G2, x, s.gh, by rw [List.append_nil]; exact r,
    .mk (Res.wp_mono q (fun y q v G3 H3 s' rv => q v G3 H3 (s.trans s') (an _ _ _ _ _ _ (k.stp s).fr rv)) fun c fs z H' d a b => z H' d ((k.stp s).fr.trans a) b)⟩) fun _ _ z => z)
theorem rF_rK {F : Hp} {v : V} {xs : List α} (h : (rF F R).r K G v xs) : (rK R).r K G v xs := by
  obtain ⟨p, vs, a, b, c, d⟩ := h
  exact ⟨p, vs, a, c, d⟩
theorem e_FK {F : Hp} {m : Res (List α)} (h : EvE K fm te σ G O (rF F R) m) : EvE K fm te σ G O (rK R) m := fun G1 H1 e k Q q =>
  h G1 H1 e k Q (Res.wp_mono q (fun xs q v G2 H2 s r => q v G2 H2 s (rF_rK r)) fun _ _ z => z)
/-- from the promise that tells more -/
theorem spPF_imp {cl : Nat → Addr} {S : Rps α} {f : α → Res β} {Rf : Hp → Rp β} {R' : Rp β} (h : ∀ F K G v y, (Rf F).r K G v y → R'.r K G v y) (vs : List V) (H : Hp) (Q : VK) (E : XK) (q : spP K cl S R' f vs H Q E) : spPF K cl S Rf f vs H Q E := by
  obtain ⟨G, a, g, s, w⟩ := q
  exact ⟨G, a, g, s, .mk (Res.wp_mono w.out (fun y q v G' H' st r => q v G' H' st (h _ _ _ _ _ r)) fun _ _ z => z)⟩
/-! ### a pair of a word and a list that is one's own from then on -/
theorem w_told {i : Nat} {S : Rps α} {f : α → Res (γ × List β)} {Rl : Rp β} {Rw : Rp γ} {t : TA} {mk : γ × List β → Res ρ} (sw : Sc Rw) (sl : Sc Rl) (h : EvA K fm t σ G O S m) (hs : Hs fm G O H) (hm : Wp ((m.bind f).bind mk) Q fm.xw)
    (k : ∀ y v1 l vs p G' H', Same G G' → Hs fm G' ((l, .lst vs) :: O) H' → SqT K G' p [v1, .ref l] → Rw.r K G' v1 y.1 → RLs Rl K G' vs y.2 → Wp (mk y) Q fm.xw → tr D (σ.set i (some (.ref p))) H') :
    tSeq (tAsg (tCall (spPF K fm.cl S (fun F => rP2 Rw (rF F Rl)) f) [] fm.E t) (gName i)) tr D σ H :=
  h G H (Same.refl _) hs.kn _ (Res.wp_mono (Res.wp_bind (Res.wp_bind hm.out)) (fun x q vs G2 H2 s r => ⟨G2, x, s.gh, by rw [List.append_nil]; exact r,
    Wp.mk (Res.wp_mono q (fun y q v G3 H3 s' rv => by
      obtain ⟨p, ws, rfl, hT, v1, r1, e1, hw, v2, e2, l, us, rfl, hl, hG, rl⟩ := rv
      subst e1 e2
      have ss := s.trans s'
      have g2l : G2 l = none := same_back s.gh hl
      have hne : ∀ b o, G2 b = some o → b ≠ l := fun b o z => ne_of_none z g2l
      have hT' : SqT K (fun b => if b = l then none else G3 b) p [v1, .ref l] := by
        rcases hT with hT | hT
        · refine .inl ?_
          have np : p ≠ l := by
            rintro rfl
            rcases hT with hT | ⟨o, hT⟩ <;> rw [hG] at hT <;> cases hT
          rcases hT with hT | ⟨o, hT⟩
          · exact .inl (by show (if p = l then none else G3 p) = _; rw [if_neg np]; exact hT)
          · exact .inr ⟨o, by show (if p = l then none else G3 p) = _; rw [if_neg np]; exact hT⟩
        · exact .inr hT
      have st : Stp G H (fun b => if b = l then none else G3 b) H3 := ⟨ss.hh, fun b o z => by
          show (if b = l then none else G3 b) = _
          rw [if_neg (hne b o (s.gg b o z))]; exact ss.gg b o z, fun b o z => by
          by_cases e : b = l
          · subst e; rw [if_pos rfl] at z; cases z
          · rw [if_neg e] at z; exact ss.gh b o z, fun b o z => by
          show (if b = l then none else G3 b) = _
          have : b ≠ l := by rintro rfl; have := s.hh _ _ z; rw [hl] at this; cases this
          rw [if_neg this]; exact ss.old b o z⟩
      exact k y v1 l us p _ H3 st.gg (hs.new st (same_back s.hh hl) (if_pos rfl) (s'.gh _ _ hG)) hT' (sw _ _ _ _ _ hw) (Paired.mapP rl fun _ _ q => sl _ _ _ _ _ q) (.mk q)) fun c fs z H' d a b => z H' d ((hs.kn.stp s).fr.trans a) b)⟩) fun _ _ z => z)
theorem told_rep {Rl : Rp β} {Rw : Rp γ} {y : γ × List β} {v1 : V} {l p : Addr} {vs : List V} (hT : SqT K G p [v1, .ref l]) (hw : Rw.r K G v1 y.1) (hG : G l = some (.lst vs)) (r : RLs Rl K G vs y.2) : (rP2 Rw (rK Rl)).r K G (.ref p) y :=
  ⟨p, _, rfl, hT, v1, _, rfl, hw, _, rfl, l, vs, rfl, hG, r⟩
/-- told[1].append(e) -/
theorem w_appAt {i : Nat} (j : Nat) {l p : Addr} {v1 : V} {vs : List V} {xs : List α} {m : Res α} {mk : List α → Res ρ} (hx : σ[i]? = some (some (.ref p))) (hT : SqT K G p [v1, .ref l]) (hj : O[j]? = some (l, .lst vs)) (hr : RLs R K G vs xs) (he : EvE K fm te σ G O R m) (hs : Hs fm G O H)
    (hm : Wp (appM xs m mk) Q fm.xw)
    (k : ∀ y v G' H', Same G G' → Hs fm G' (O.set j (l, .lst (vs ++ [v]))) H' → RLs R K G' (vs ++ [v]) (xs ++ [y]) → Wp (mk (xs ++ [y])) Q fm.xw → tr D σ H') :
    tSeq (tDrop (tBM K "list" rAppend (tOp (rIxT K) (tVar i) (tC (.int 1))) (tCons te tNil))) tr D σ H :=
  ⟨_, hx, p, _, 1, .ref l, rfl, rfl, same_t hs.gh hT, rfl, .inl ⟨rfl, vs, SqL.of (hs.at j hj).1⟩, he G H (Same.refl _) hs.kn _ (Res.wp_mono (Res.wp_bind (f := fun y => if xs.length < lim then mk (xs ++ [y]) else .stuck) hm.out) (fun y q v G2 H2 s r => by
    by_cases hl : xs.length < lim
    · rw [if_pos hl] at q
      exact ⟨l, vs, v, rfl, rfl, s.hh _ _ (hs.at j hj).1, by rw [Paired.length hr, ← lim_eq]; exact hl, k y v G2 _ s.gg ((hs.stp s).set j hj) (paired_app (hr.mono s.gg) (.cons r .nil)) (.mk q)⟩
    · rw [if_neg hl] at q; exact q.elim) fun _ _ z => z)⟩

/-! ### try: .. except GatesError as e: return [isinstance(e, A), .., True].index(True) -/
def tryM {α ρ : Type} (m : Res α) (h : Nat → List (Str × V) → Res ρ) (k : α → Res ρ) : Res ρ :=
  match m with
  | .ok a => k a
  | .exc c fs => h c fs
  | .stuck => .stuck
@[simp] theorem tryM_ok {α ρ : Type} (a : α) (h : Nat → List (Str × V) → Res ρ) (k : α → Res ρ) : tryM (.ok a) h k = k a := rfl
@[simp] theorem tryM_exc {α ρ : Type} (c fs) (h : Nat → List (Str × V) → Res ρ) (k : α → Res ρ) : tryM (.exc c fs) h k = h c fs := rfl
/-- the items isinstance(e, C), .. and True -/
def tIs (K : PySem.W.Frag) (i : Nat) (a C : Addr) : List Addr → TA
  | [] => tCons (tC (.bl true)) tNil
  | c :: cs => tCons (tCB (rIsE K C a) (tCons (tVar i) (tCons (tC (.ref c)) tNil))) (tIs K i a C cs)
def firstT : List Bool → Nat
  | [] => 0
  | b :: bs => if b = true then 0 else firstT bs + 1
theorem tIs_run {i : Nat} {a C : Addr} : ∀ {cs : List Addr} {bs : List Bool} {σ : L2.St} {H : Hp} {Q : List V → Hp → Prop}, σ[i]? = some (some (.ref a)) → Paired (fun c b => PySem.W.kitOne K (.ref C) (.ref c) = some b) cs bs → Q ((bs.map V.bl) ++ [.bl true]) H → tIs K i a C cs σ H Q
  | _, _, σ, H, Q, hx, .nil, q => q
  | _, _, σ, H, Q, hx, .cons (b := b) h t, q => ⟨_, hx, .ref _, .ref _, b, rfl, fun u e => e, h, tIs_run (Q := fun xs H2 => Q (.bl b :: xs) H2) hx t q⟩
def tIdx (K : PySem.W.Frag) (i : Nat) (a C : Addr) (cs : List Addr) : TS := tSeq (tRet (tBM K "list" (rIndex K) (tLst (tIs K i a C cs)) (tCons (tC (.bl true)) tNil))) tNext
theorem firstT_at : ∀ bs : List Bool, (bs.map V.bl ++ [V.bl true])[firstT bs]? = some (.bl true)
  | [] => rfl
  | b :: bs => by
    unfold firstT
    split
    · rename_i h; subst h; rfl
    · simpa using firstT_at bs
theorem firstT_lt : ∀ (bs : List Bool) (m : Nat) (z : V), m < firstT bs → (bs.map V.bl ++ [V.bl true])[m]? = some z → eqV z (.bl true) = false
  | [], m, z, h, e => absurd h (by simp [firstT])
  | b :: bs, m, z, h, e => by
    unfold firstT at h
    split at h
    · exact absurd h (Nat.not_lt_zero _)
    · rename_i hb
      cases m with
      | zero =>
        have : z = .bl b := by simpa using e.symm
        subst this
        cases b
        · rfl
        · exact absurd rfl hb
      | succ m => exact firstT_lt bs m z (by omega) (by simpa using e)
theorem firstT_len : ∀ bs : List Bool, firstT bs ≤ bs.length
  | [] => Nat.le_refl _
  | b :: bs => by
    unfold firstT
    split
    · exact Nat.zero_le _
    · exact Nat.succ_le_succ (firstT_len bs)
theorem tIdx_run {i : Nat} {a C : Addr} {cs : List Addr} {bs : List Bool} {σ : L2.St} {H : Hp} (hx : σ[i]? = some (some (.ref a))) (h : Paired (fun c b => PySem.W.kitOne K (.ref C) (.ref c) = some b) cs bs) (hn : bs.length < 1000)
    (q : ∀ H', Same H H' → D.rt (.int (firstT bs : Nat)) H') : tIdx K i a C cs D σ H := by
  refine tIs_run (K := K) hx h ⟨?_, fun p hp => ⟨.inl ⟨rfl, _, SqL.of upd_same⟩, p, _, .bl true, firstT bs, .bl true, rfl, rfl, SqL.of upd_same, rfl, ?_, firstT_at bs, rfl, firstT_lt bs, q _ (same_new hp)⟩⟩
  · rw [sizeLine_eq]; simp; omega
  · rw [List.all_eq_true]
    intro x hx
    rcases List.mem_append.mp hx with hx | hx
    · obtain ⟨b, _, e⟩ := List.mem_map.mp hx
      rw [← e]; rfl
    · rw [List.mem_singleton.mp hx]; rfl
/-- the suite's reading, by the class of what is caught -/
noncomputable def tSui (K : PySem.W.Frag) (i : Nat) (cl : Nat → Addr) (n : Nat) (cs : List Addr) (a : Addr) (cls : Value) (d : Option Addr) : TS := by
  classical exact if h : d = none ∧ ∃ k, k < n ∧ cls = .ref (cl k) then tIdx K i a (cl h.2.choose) cs else tNever
theorem tSui_eq {i : Nat} {cl : Nat → Addr} {n : Nat} {cs : List Addr} {a : Addr} {k : Nat} (hk : k < n) : tSui K i cl n cs a (.ref (cl k)) none = tIdx K i a (cl k) cs := by
  unfold tSui
  have h : (none : Option Addr) = none ∧ ∃ j, j < n ∧ Value.ref (cl k) = .ref (cl j) := ⟨rfl, k, hk, rfl⟩
  rw [dif_pos h]
  have e := h.2.choose_spec.2
  injection e with e
  rw [← e]
theorem tSui_ok {X : Cx} {i : Nat} {cl : Nat → Addr} {n : Nat} {cs : List Addr} {sts : List Stmt} (hd : ∀ (a : Addr) (oe : Obj) (k : Nat) (pn : List (Addr × Obj)), k < n → Zc (.ref (cl k)) none oe → (∃ vs, oe.data = .fields vs) → PSs (X.suite a ((a, oe) :: pn)) sts (tIdx X.K i a (cl k) cs))
    (a : Addr) (oe : Obj) (cls : Value) (d : Option Addr) (pn : List (Addr × Obj)) (hz : Zc cls d oe) (hf : ∃ vs, oe.data = .fields vs) : PSs (X.suite a ((a, oe) :: pn)) sts (tSui X.K i cl n cs a cls d) := by
  classical
  unfold tSui
  split
  · rename_i h
    obtain ⟨hk, e⟩ := h.2.choose_spec
    obtain ⟨rfl, _⟩ := h
    exact hd a oe _ pn hk (by rw [← e]; exact hz) hf
  · exact pss_never
theorem Hs.withE {E' : XK} (h : Hs fm G O H) : Hs { fm with E := E' } G O H := ⟨h.fr, h.g0, h.gh, h.old, h.own, h.nd⟩
theorem e_callS {S : Rps α} {f : α → Res β} {R : Rp β} {t : TA} {Ew : L2.St → XK} (hE : Ew σ = fm.E) (h : EvA K fm t σ G O S m) : EvE K fm (tCallS (spP K fm.cl S R f) Ew t) σ G O R (m.bind f) := fun G1 H1 e k Q q =>
  h G1 H1 e k _ (Res.wp_mono (Res.wp_bind q) (fun x q vs G2 H2 s r => ⟨G2, x, s.gh, r,
    .mk (Res.wp_mono q (fun y q v G3 H3 s' rv => q v G3 H3 (s.trans s') rv) fun c fs z H' d a b => by
      rw [hE]
      exact z H' d ((k.stp s).fr.trans a) b)⟩) fun _ _ z => z)
theorem e_callSF {S : Rps α} {f : α → Res β} {Rf : Hp → Rp β} {t : TA} {Ew : L2.St → XK} (an : Anti Rf) (hE : Ew σ = fm.E) (h : EvA K fm t σ G O S m) : EvE K fm (tCallS (spPF K fm.cl S Rf f) Ew t) σ G O (Rf fm.F) (m.bind f) := fun G1 H1 e k Q q =>
  h G1 H1 e k _ (Res.wp_mono (Res.wp_bind q) (fun x q vs G2 H2 s r => ⟨G2, x, s.gh, r,
    .mk (Res.wp_mono q (fun y q v G3 H3 s' rv => q v G3 H3 (s.trans s') (an _ _ _ _ _ _ (k.stp s).fr rv)) fun c fs z H' d a b => by
      rw [hE]
      exact z H' d ((k.stp s).fr.trans a) b)⟩) fun _ _ z => z)
theorem Hs.sr (h : Hs fm G O H) : Same G G := Same.refl G
/-- by the class: the place in the handler's list -/
def errM {ρ : Type} (n : Nat) (f : Nat → Res ρ) (c : Nat) (fs : List (Str × V)) : Res ρ := if c < n ∧ fs = [] then f c else .stuck
def tTry (tb : WX → TS) (K : PySem.W.Frag) (c : Value) (i : Nat) (ts : Addr → Value → Option Addr → TS) (Wout : WX) : TS := fun D σ H => tb (wAs K c i ts Wout D) D σ H
theorem w_try {tb : WX → TS} {Wout : WX} {c : Value} {i nn : Nat} {cs : List Addr} {bs : Nat → List Bool} {mb : Res Unit} {hd : Nat → Res ρ} {rest : Res ρ}
    (hs : Hs fm G O H) (hm : Wp (tryM mb (errM nn hd) (fun _ => rest)) Q fm.xw) (hi : i < σ.length)
    (hex : ∀ k, k < nn → PySem.W.exmOne K (.ref (fm.cl k)) c = some true)
    (hkit : ∀ k, k < nn → Paired (fun c b => PySem.W.kitOne K (.ref (fm.cl k)) (.ref c) = some b) cs (bs k)) (hlen : ∀ k, k < nn → (bs k).length < 1000)
    (hret : ∀ k H', k < nn → Same fm.F H' → Wp (hd k) Q fm.xw → D.rt (.int (firstT (bs k) : Nat)) H')
    (hb : ∀ (D' : Ends) (Qb : Unit → Prop) (W : WX), (∀ G' H', Same G G' → Hs fm G' O H' → Qb () → D'.nx σ H') → Hs { fm with E := WE W σ } G O H → Wp mb Qb ({ fm with E := WE W σ } : Fm).xw → tb W D' σ H)
    (hn : ∀ G' H', Same G G' → Hs fm G' O H' → Wp rest Q fm.xw → tr D σ H') : tSeq (tTry tb K c i (tSui K i fm.cl nn cs) Wout) tr D σ H := by
  refine hb _ (fun _ => Wp rest Q fm.xw) _ (fun G' H' a b q => hn G' H' a b q) hs.withE (.mk ?_)
  have q := hm.out
  cases mb with
  | ok u => exact .mk q
  | stuck => exact q
  | exc k fs =>
    have q' : (errM nn hd k fs).wp Q fm.xw := q
    unfold errM at q'
    split at q'
    · rename_i hk
      obtain ⟨hk, rfl⟩ := hk
      intro H' d e hd'
      cases (show d = none from hd')
      refine ⟨true, hex k hk, fun _ a ha => ?_, fun z => nomatch z⟩
      rw [tSui_eq hk]
      exact tIdx_run (List.getElem?_set_self hi) (hkit k hk) (hlen k hk) fun H2 e2 => hret k H2 hk (e.trans e2) (.mk q')
    · exact q'.elim
theorem e_FP2 {F : Hp} {m : Res (β × List α)} (h : EvE K fm te σ G O (rP2 S (rF F R)) m) : EvE K fm te σ G O (rP2 S (rK R)) m := fun G1 H1 e k Q q =>
  h G1 H1 e k Q (Res.wp_mono q (fun xs q v G2 H2 s r => q v G2 H2 s (by
    obtain ⟨p, vs, a, b, v1, r1, c, d, v2, f, g⟩ := r
    exact ⟨p, vs, a, b, v1, r1, c, d, v2, f, rF_rK g⟩)) fun _ _ z => z)
theorem nn_F {F : Hp} : Nn (rF F R) := fun _ _ v x ⟨p, vs, h, _⟩ => by cases h; simp
end
end Mw

namespace Mw
open PySem PySem.Spec PyProof.Rows L2
/-! ### what evaluates to one value and leaves all as it is: names, fields -/
def EvV (fm : Fm) (te : TE) (σ : L2.St) (G : Hp) (O : Own) (v : V) : Prop := ∀ G1 H1, Same G G1 → Kn fm G1 O H1 → ∀ Q : VK, Q v H1 → te σ H1 Q
/-- a tuple made here, of keys: what the layer takes as a key -/
structure Kt (κ : Type) [DecidableEq κ] where
  enc : κ → List Key
  inj : ∀ {a b}, enc a = enc b → a = b
def rX {κ : Type} [DecidableEq κ] (k : Kt κ) : Rp κ := ⟨fun _ G v x => ∃ p, v = .ref p ∧ G p = some (.tup ((k.enc x).map kV)), fun e ⟨p, h, g⟩ => ⟨p, h, e _ _ g⟩⟩
def kt3 : Kt (Int × Int × Int) := ⟨fun x => [.inl x.1, .inl x.2.1, .inl x.2.2], fun {a b} h => by
  injection h with h1 h
  injection h with h2 h
  injection h with h3 h
  cases a; cases b
  simp only [Prod.mk.injEq]
  rename_i x y u v
  obtain ⟨y1, y2⟩ := y
  obtain ⟨v1, v2⟩ := v
  exact ⟨Sum.inl.inj h1, by simpa using ⟨Sum.inl.inj h2, Sum.inl.inj h3⟩⟩⟩
section
variable {α β γ δ ρ κ : Type} [DecidableEq κ] {K : PySem.W.Frag} {fm : Fm} {σ : L2.St} {G G' H H' : Hp} {O : Own}
variable {te ta tb tc : TE} {R : Rp α} {S : Rp β} {T : Rp γ} {m : Res α} {n : Res β}
variable {D : Ends} {tr tt tu tw : TS} {Q : ρ → Prop}
theorem EvV.mono {v : V} (e : Same G G') (h : EvV fm te σ G O v) : EvV fm te σ G' O v := fun G1 H1 a k Q q => h G1 H1 (e.trans a) k Q q
theorem v_var {i : Nat} {v : V} (h : σ[i]? = some (some v)) : EvV fm (tVar i) σ G O v := fun G1 H1 e k Q q => ⟨v, h, q⟩
theorem v_fld {p C dx : Addr} {fs : List (Str × V)} {f : Str} {v : V} (h : EvV fm te σ G O (.ref p)) (ho : (p, .ins C dx fs) ∈ O) (c : Cls K C) (na : NoAttr K C f) (l : fs.lookup f = some v) : EvV fm (tFld K te f) σ G O v :=
  fun G1 H1 e k Q q => h G1 H1 e k _ ⟨p, C, dx, fs, v, rfl, k.own _ ho, c, na, l, q⟩
theorem e_val {v : V} {x : α} (h : EvV fm te σ G O v) (r : R.r K G v x) : EvE K fm te σ G O R (.ok x) := fun G1 H1 e k Q q =>
  h G1 H1 e k _ (q v G1 H1 (Stp.refl k.gh) (R.mono e r))
theorem e_lenV {l : Addr} {vs : List V} {xs : List α} (h : EvV fm te σ G O (.ref l)) (hl : (l, HO.lst vs) ∈ O) (r : RLs R K G vs xs) : EvE K fm (tCB (rLen K) (tCons te tNil)) σ G O zI (lenM (.ok xs)) := fun G1 H1 e k Q q =>
  h G1 H1 e k _ ⟨_, xs.length, rfl, .inl ⟨vs, SqL.of (k.own _ hl), (Paired.length r).symm⟩, q _ G1 H1 (Stp.refl k.gh) rfl⟩
theorem e_ixV {l : Addr} {vs : List V} {xs : List α} {n : Res Int} (h : EvV fm te σ G O (.ref l)) (hl : (l, HO.lst vs) ∈ O) (r : RLs R K G vs xs) (hb : EvE K fm tb σ G O zI n) : EvE K fm (tOp (rIxL K) te tb) σ G O R (idxM (.ok xs) n) := fun G1 H1 e k Q q =>
  h G1 H1 e k _ (hb G1 H1 e k _ (Res.wp_mono (Res.wp_bind (m := n) (f := fun j => optM (atI xs j)) q) (fun j q v G2 H2 s rv => by
    cases (show v = .int j from rv)
    cases ea : atI xs j with
    | none => rw [ea] at q; exact q.elim
    | some y =>
      rw [ea] at q
      obtain ⟨w, ew, rw'⟩ := paired_at r ea
      exact ⟨l, vs, j, w, rfl, rfl, SqL.of ((k.stp s).own _ hl), ew, q w G2 H2 s (R.mono (e.trans s.gg) rw')⟩) fun _ _ z => z))
theorem w_appV (j : Nat) {l : Addr} {vs : List V} {xs : List α} {m : Res α} {mk : List α → Res ρ} (hx : EvV fm tb σ G O (.ref l)) (hj : O[j]? = some (l, .lst vs)) (hr : RLs R K G vs xs) (he : EvE K fm te σ G O R m) (hs : Hs fm G O H)
    (hm : Wp (appM xs m mk) Q fm.xw)
    (k : ∀ y v G' H', Same G G' → Hs fm G' (O.set j (l, .lst (vs ++ [v]))) H' → R.r K G' v y → RLs R K G' (vs ++ [v]) (xs ++ [y]) → Wp (mk (xs ++ [y])) Q fm.xw → tr D σ H') : tSeq (tDrop (tBM K "list" rAppend tb (tCons te tNil))) tr D σ H :=
  hx G H (Same.refl _) hs.kn _ ⟨.inl ⟨rfl, vs, SqL.of (hs.at j hj).1⟩, he G H (Same.refl _) hs.kn _ (Res.wp_mono (Res.wp_bind (f := fun y => if xs.length < lim then mk (xs ++ [y]) else .stuck) hm.out) (fun y q v G2 H2 s r => by
    by_cases hl : xs.length < lim
    · rw [if_pos hl] at q
      exact ⟨l, vs, v, rfl, rfl, s.hh _ _ (hs.at j hj).1, by rw [Paired.length hr, ← lim_eq]; exact hl, k y v G2 _ s.gg ((hs.stp s).set j hj) r (paired_app (hr.mono s.gg) (.cons r .nil)) (.mk q)⟩
    · rw [if_neg hl] at q; exact q.elim) fun _ _ z => z)⟩
/-! ### dicts whose keys are tuples -/
abbrev RKt (k : Kt κ) (R : Rp β) (K : PySem.W.Frag) (G : Hp) : List (List Key × V) → List (κ × β) → Prop := Paired fun p x => p.1 = k.enc x.1 ∧ R.r K G p.2 x.2
theorem RKt.mono {k : Kt κ} {R : Rp β} {vs : List (List Key × V)} {xs : List (κ × β)} (e : Same G G') (h : RKt k R K G vs xs) : RKt k R K G' vs xs := Paired.mapP h fun _ _ q => ⟨q.1, R.mono e q.2⟩
theorem RKt.any {k : Kt κ} {R : Rp β} {vs : List (List Key × V)} {xs : List (κ × β)} (h : RKt k R K G vs xs) (y : κ) : (vs.any fun p => decide (p.1 = k.enc y)) = xs.any fun p => decide (p.1 = y) := by
  induction h with
  | nil => rfl
  | cons r t ih => rw [List.any_cons, List.any_cons, ih, r.1]; congr 1; exact decide_eq_decide.mpr ⟨k.inj, fun e => by rw [e]⟩
theorem RKt.get {k : Kt κ} {R : Rp β} {vs : List (List Key × V)} {xs : List (κ × β)} (h : RKt k R K G vs xs) (y : κ) :
    match dget xs y with | some b => ∃ v, valV vs (k.enc y) = some v ∧ R.r K G v b | none => valV vs (k.enc y) = none := by
  induction h with
  | nil => rfl
  | @cons p x vs xs r t ih =>
    by_cases e : x.1 = y
    · have : dget (x :: xs) y = some x.2 := by simp [dget, List.find?_cons, e]
      rw [this]
      exact ⟨p.2, valV_pos (r.1.trans (by rw [e])), r.2⟩
    · have : dget (x :: xs) y = dget xs y := by simp [dget, List.find?_cons, e]
      rw [this, valV_neg (fun q => e (k.inj (r.1.symm.trans q)))]
      exact ih
theorem RKt.isSome {k : Kt κ} {R : Rp β} {vs : List (List Key × V)} {xs : List (κ × β)} (h : RKt k R K G vs xs) (y : κ) : (valV vs (k.enc y)).isSome = (dget xs y).isSome := by
  have q := h.get y
  cases e : dget xs y with
  | none => rw [e] at q; rw [show valV vs (k.enc y) = none from q]; rfl
  | some b => rw [e] at q; obtain ⟨v, hv, _⟩ := q; rw [hv]; rfl
theorem RKt.rep {k : Kt κ} {R : Rp β} {vs : List (List Key × V)} {xs : List (κ × β)} (h : RKt k R K G vs xs) (y : κ) {v : V} {b : β} (r : R.r K G v b) :
    RKt k R K G (vs.map fun p => if p.1 = k.enc y then (p.1, v) else p) (xs.map fun p => if p.1 = y then (p.1, b) else p) := by
  induction h with
  | nil => exact .nil
  | @cons p x vs xs q t ih =>
    refine .cons ?_ ih
    by_cases e : x.1 = y
    · dsimp only; rw [if_pos e, if_pos (q.1.trans (by rw [e]))]; exact ⟨q.1, r⟩
    · dsimp only; rw [if_neg e, if_neg (fun z => e (k.inj (q.1.symm.trans z)))]; exact q
theorem RKt.put {k : Kt κ} {R : Rp β} {vs : List (List Key × V)} {xs : List (κ × β)} (h : RKt k R K G vs xs) (y : κ) {v : V} {b : β} (r : R.r K G v b) : RKt k R K G (putK vs (k.enc y) v) (dput xs y b) := by
  unfold putK dput
  rw [h.any y]
  split
  · exact RKt.rep h y r
  · exact paired_app h (.cons ⟨rfl, r⟩ .nil)
theorem e_dgetT {l : Addr} {k : Kt κ} {R : Rp β} {vs : List (List Key × V)} {xs : List (κ × β)} {n : Res κ} (h : EvV fm te σ G O (.ref l)) (hl : (l, HO.dT vs) ∈ O) (r : RKt k R K G vs xs) (hi : EvE K fm ta σ G O (rX k) n) :
    EvE K fm (tDGet te ta) σ G O R (dgetM xs n) := fun G1 H1 e kn Q q =>
  h G1 H1 e kn _ (hi G1 H1 e kn _ (Res.wp_mono (Res.wp_bind q) (fun y q v G2 H2 s rv => by
    obtain ⟨b, rfl, hb⟩ := rv
    have g := r.get y
    cases eg : dget xs y with
    | none => rw [eg] at q; exact q.elim
    | some x =>
      rw [eg] at q g
      obtain ⟨w, hw, rw'⟩ := g
      exact ⟨l, w, rfl, by rw [← hw]; exact DGet.t ((kn.stp s).own _ hl) (s.gh _ _ hb), q w G2 H2 s (R.mono (e.trans s.gg) rw')⟩) fun _ _ z => z))
theorem e_dninT {l : Addr} {k : Kt κ} {R : Rp β} {vs : List (List Key × V)} {xs : List (κ × β)} {n : Res κ} (h : EvV fm te σ G O (.ref l)) (hl : (l, HO.dT vs) ∈ O) (r : RKt k R K G vs xs) (hi : EvE K fm ta σ G O (rX k) n) :
    EvE K fm (tDNotIn ta te) σ G O rB (notM (dinM xs n)) := fun G1 H1 e kn Q q =>
  hi G1 H1 e kn _ (Res.wp_mono (Res.wp_bind (Res.wp_bind q)) (fun y q v G2 H2 s rv => by
    obtain ⟨b, rfl, hb⟩ := rv
    exact h G2 H2 (e.trans s.gg) (kn.stp s) _ ⟨l, valV vs (k.enc y), rfl, DGet.t ((kn.stp s).own _ hl) (s.gh _ _ hb), q _ G2 H2 s (by show V.bl _ = V.bl _; rw [r.isSome])⟩) fun _ _ z => z)
theorem w_dputT (j : Nat) {l : Addr} {k : Kt κ} {R : Rp β} {vs : List (List Key × V)} {xs : List (κ × β)} {m : Res β} {n : Res κ} {mk : List (κ × β) → Res ρ} (hx : EvV fm tb σ G O (.ref l)) (hj : O[j]? = some (l, .dT vs)) (hr : RKt k R K G vs xs)
    (he : EvE K fm te σ G O R m) (hi : EvE K fm ta σ G O (rX k) n) (hs : Hs fm G O H) (hm : Wp (dputM xs n m mk) Q fm.xw)
    (kk : ∀ ys ws G' H', Same G G' → Hs fm G' (O.set j (l, .dT ws)) H' → RKt k R K G' ws ys → Wp (mk ys) Q fm.xw → tr D σ H') : tSeq (sDPut tb ta te) tr D σ H :=
  he G H (Same.refl _) hs.kn _ (Res.wp_mono (Res.wp_bind hm.out) (fun y q v G2 H2 s r => hx G2 H2 s.gg (hs.stp s).kn _ (hi G2 H2 s.gg (hs.stp s).kn _ (Res.wp_mono (Res.wp_bind q) (fun z q v' G3 H3 s' r' => by
    have ss := s.trans s'
    obtain ⟨b, rfl, hb⟩ := r'
    by_cases hl : xs.length < lim
    · rw [if_pos hl] at q
      exact ⟨l, _, rfl, DPut.t (ss.hh _ _ (hs.at j hj).1) (s'.gh _ _ hb) (by rw [Paired.length hr, ← lim_eq]; exact hl), kk _ _ G3 _ ss.gg ((hs.stp ss).set j hj) ((hr.mono ss.gg).put z (R.mono s'.gg r)) (.mk q)⟩
    · rw [if_neg hl] at q; exact q.elim) fun _ _ z => z))) fun _ _ z => z)
end
end Mw

namespace Mw
open PySem PySem.Spec PyProof.Rows L2
/-! ### objects: own cells that a callee writes -/
/-- the heap without the cells of O -/
def without (O : Own) (H : Hp) : Hp := fun b => if b ∈ O.map (·.1) then none else H b
theorem without_in {O : Own} {H : Hp} {b : Addr} (h : b ∈ O.map (·.1)) : without O H b = none := if_pos h
theorem without_out {O : Own} {H : Hp} {b : Addr} (h : b ∉ O.map (·.1)) : without O H b = H b := if_neg h
theorem without_some {O : Own} {H : Hp} {b : Addr} {o : HO} (h : without O H b = some o) : H b = some o ∧ b ∉ O.map (·.1) := by
  unfold without at h
  split at h
  · cases h
  · rename_i q; exact ⟨h, q⟩
section
variable {α β γ δ ρ : Type} {K : PySem.W.Frag} {fm : Fm} {σ : L2.St} {G G' H H' : Hp} {O O' La Lb : Own}
variable {te ta tb tc : TE} {R : Rp α} {S : Rp β} {T : Rp γ} {m : Res α} {n : Res β}
variable {D : Ends} {tr tt tu tw : TS} {Q : ρ → Prop}
theorem Hs.sub (hs : Hs fm G (La ++ (O ++ Lb)) H) : Hs ⟨without O H, G, fm.E, fm.cl⟩ G O H :=
  ⟨fun b o h => (without_some h).1, Same.refl _, hs.gh, fun _ _ _ => rfl, fun p hp => by
    have := hs.own p (List.mem_append_right _ (List.mem_append_left _ hp))
    exact ⟨this.1, this.2.1, without_in (List.mem_map.mpr ⟨p, hp, rfl⟩)⟩, by
    have := hs.nd
    rw [List.map_append, List.map_append] at this
    exact (List.nodup_append.mp (List.nodup_append.mp this).2.1).1⟩
theorem Hs.back (hs : Hs fm G (La ++ (O ++ Lb)) H) (h : Hs ⟨without O H, G, fm.E, fm.cl⟩ G' O' H') (e : O'.map (·.1) = O.map (·.1)) : Hs fm G' (La ++ (O' ++ Lb)) H' := by
  have nd := hs.nd
  rw [List.map_append, List.map_append] at nd
  obtain ⟨n1, n2, n3⟩ := List.nodup_append.mp nd
  obtain ⟨n4, n5, n6⟩ := List.nodup_append.mp n2
  have fo : ∀ b o, fm.F b = some o → b ∉ O.map (·.1) := fun b o hb hm => by
    obtain ⟨p, hp, rfl⟩ := List.mem_map.mp hm
    have := (hs.own p (List.mem_append_right _ (List.mem_append_left _ hp))).2.2
    rw [this] at hb
    cases hb
  have oth : ∀ p : Addr × HO, p ∈ La ++ (O ++ Lb) → p.1 ∉ O.map (·.1) → H' p.1 = some p.2 ∧ G' p.1 = none ∧ fm.F p.1 = none := fun p hp ho => by
    obtain ⟨a, b, c⟩ := hs.own p hp
    have w : without O H p.1 = some p.2 := (without_out ho).trans a
    exact ⟨h.fr _ _ w, (h.old _ _ w).trans b, c⟩
  refine ⟨fun b o hb => h.fr b o ((without_out (fo b o hb)).trans (hs.fr b o hb)), hs.g0.trans h.g0, h.gh, fun b o hb => (h.old b o ((without_out (fo b o hb)).trans (hs.fr b o hb))).trans (hs.old b o hb), fun p hp => ?_, ?_⟩
  · rcases List.mem_append.mp hp with hp | hp
    · refine oth p (List.mem_append_left _ hp) fun hm => ?_
      exact n3 p.1 (List.mem_map.mpr ⟨p, hp, rfl⟩) p.1 (List.mem_append_left _ hm) rfl
    · rcases List.mem_append.mp hp with hp | hp
      · obtain ⟨a, b, c⟩ := h.own p hp
        have hm : p.1 ∈ O.map (·.1) := by rw [← e]; exact List.mem_map.mpr ⟨p, hp, rfl⟩
        obtain ⟨q, hq, eq⟩ := List.mem_map.mp hm
        refine ⟨a, b, ?_⟩
        rw [← eq]
        exact (hs.own q (List.mem_append_right _ (List.mem_append_left _ hq))).2.2
      · refine oth p (List.mem_append_right _ (List.mem_append_right _ hp)) fun hm => ?_
        exact n6 p.1 hm p.1 (List.mem_map.mpr ⟨p, hp, rfl⟩) rfl
  · rw [List.map_append, List.map_append, e]
    exact nd
/-- what a def that writes an object promises: the object first -/
def spM {α β δ : Type} (K : PySem.W.Frag) (cl : Nat → Addr) (Ob : δ → V → Hp → Own → Prop) (S : Rps α) (R : Rp β) (f : δ → α → Res (β × δ)) : Sp := fun vs H Q E => ∃ F G O d v0 rest a, vs = v0 :: rest ∧ Hs ⟨F, G, E, cl⟩ G O H ∧ Ob d v0 G O ∧ S.r K G rest a ∧
  Wp (f d a) (fun x => ∀ v G' O' H', Hs ⟨F, G, E, cl⟩ G' O' H' → Ob x.2 v0 G' O' → O'.map (·.1) = O.map (·.1) → R.r K G' v x.1 → Q v H') (Fm.xw ⟨F, G, E, cl⟩)
/-- what evaluates while it writes the object -/
def EvM {α δ : Type} (K : PySem.W.Frag) (fm : Fm) (te : TE) (σ : L2.St) (G : Hp) (La O Lb : Own) (Ob : δ → V → Hp → Own → Prop) (v0 : V) (d : δ) (R : Rp α) (mm : Res (α × δ)) : Prop :=
  ∀ H, Hs fm G (La ++ (O ++ Lb)) H → Ob d v0 G O → ∀ Q : VK, mm.wp (fun x => ∀ v G' O' H', Same G G' → Hs fm G' (La ++ (O' ++ Lb)) H' → Ob x.2 v0 G' O' → O'.map (·.1) = O.map (·.1) → R.r K G' v x.1 → Q v H') fm.xw → te σ H Q
variable {Ob : δ → V → Hp → Own → Prop} {d : δ} {v0 : V}
theorem xw_sub {c : Nat} {fs : List (Str × V)} (hs : Hs fm G (La ++ (O ++ Lb)) H) (h : fm.xw c fs) : Fm.xw ⟨without O H, G, fm.E, fm.cl⟩ c fs := fun H' dd s x => h H' dd (fun b o hb => s b o (by
  show without O H b = some o
  rw [without_out]
  · exact hs.fr b o hb
  · intro hm
    obtain ⟨p, hp, rfl⟩ := List.mem_map.mp hm
    have := (hs.own p (List.mem_append_right _ (List.mem_append_left _ hp))).2.2
    rw [this] at hb
    cases hb)) x
/-- o.m(..), m writes o -/
theorem m_meth {Sα : Rps β} {f : δ → β → Res (α × δ)} {mt : Str} {p C dx : Addr} {fs : List (Str × V)} {t : TA} {a : Res β} (obm : ∀ d v G G' O, Same G G' → Ob d v G O → Ob d v G' O)
    (hx : EvV fm te σ G (La ++ (O ++ Lb)) (.ref p)) (ho : (p, .ins C dx fs) ∈ La ++ (O ++ Lb)) (hl : fs.lookup mt = none) (ha : EvA K fm t σ G (La ++ (O ++ Lb)) Sα a) :
    EvM K fm (tMeth C mt (spM K fm.cl Ob Sα R f) [] fm.E te t) σ G La O Lb Ob (.ref p) d R (a.bind fun x => f d x) := fun H hs ob Q q =>
  hx G H (Same.refl _) hs.kn _ ⟨p, dx, fs, rfl, hs.kn.own _ ho, hl, ha G H (Same.refl _) hs.kn _ (Res.wp_mono (Res.wp_bind q) (fun x q vs G1 H1 s r => by
    have hs1 := hs.stp s
    refine ⟨without O H1, G1, O, d, .ref p, vs, x, by rw [List.append_nil], hs1.sub, obm _ _ _ _ _ s.gg ob, r, .mk (Res.wp_mono q (fun y q v G2 O2 H2 h2 ob2 e2 r2 => ?_) fun c fs z => xw_sub hs1 z)⟩
    exact q v G2 O2 H2 (s.gg.trans h2.g0) (hs1.back h2 e2) ob2 e2 r2) fun _ _ z => z)⟩
/-- f(o, ..), f writes o -/
theorem m_call {Sα : Rps β} {f : δ → β → Res (α × δ)} {t : TA} {a : Res β} (obm : ∀ d v G G' O, Same G G' → Ob d v G O → Ob d v G' O)
    (hx : EvV fm te σ G (La ++ (O ++ Lb)) v0) (ha : EvA K fm t σ G (La ++ (O ++ Lb)) Sα a) :
    EvM K fm (tCall (spM K fm.cl Ob Sα R f) [] fm.E (tCons te t)) σ G La O Lb Ob v0 d R (a.bind fun x => f d x) := fun H hs ob Q q =>
  hx G H (Same.refl _) hs.kn _ (ha G H (Same.refl _) hs.kn _ (Res.wp_mono (Res.wp_bind q) (fun x q vs G1 H1 s r => by
    have hs1 := hs.stp s
    refine ⟨without O H1, G1, O, d, v0, vs, x, by rw [List.append_nil], hs1.sub, obm _ _ _ _ _ s.gg ob, r, .mk (Res.wp_mono q (fun y q v G2 O2 H2 h2 ob2 e2 r2 => ?_) fun c fs z => xw_sub hs1 z)⟩
    exact q v G2 O2 H2 (s.gg.trans h2.g0) (hs1.back h2 e2) ob2 e2 r2) fun _ _ z => z))
theorem w_asgM {i : Nat} {mm : Res (α × δ)} {mk : α × δ → Res ρ} (he : EvM K fm te σ G La O Lb Ob v0 d R mm) (hs : Hs fm G (La ++ (O ++ Lb)) H) (ob : Ob d v0 G O) (hm : Wp (mm.bind mk) Q fm.xw)
    (k : ∀ x v G' O' H', Same G G' → Hs fm G' (La ++ (O' ++ Lb)) H' → Ob x.2 v0 G' O' → O'.map (·.1) = O.map (·.1) → R.r K G' v x.1 → Wp (mk x) Q fm.xw → tr D (σ.set i (some v)) H') : tSeq (tAsg te (gName i)) tr D σ H :=
  he H hs ob _ (Res.wp_mono (Res.wp_bind hm.out) (fun x q v G2 O2 H2 a b c e r => k x v G2 O2 H2 a b c e r (.mk q)) fun _ _ z => z)
theorem w_retM {mm : Res (α × δ)} {mk : α × δ → Res ρ} (he : EvM K fm te σ G La O Lb Ob v0 d R mm) (hs : Hs fm G (La ++ (O ++ Lb)) H) (ob : Ob d v0 G O) (hm : Wp (mm.bind mk) Q fm.xw)
    (k : ∀ x v G' O' H', Same G G' → Hs fm G' (La ++ (O' ++ Lb)) H' → Ob x.2 v0 G' O' → O'.map (·.1) = O.map (·.1) → R.r K G' v x.1 → Wp (mk x) Q fm.xw → D.rt v H') : tSeq (tRet te) tr D σ H :=
  he H hs ob _ (Res.wp_mono (Res.wp_bind hm.out) (fun x q v G2 O2 H2 a b c e r => k x v G2 O2 H2 a b c e r (.mk q)) fun _ _ z => z)
theorem w_retM0 {mm : Res (α × δ)} {Q : α × δ → Prop} (he : EvM K fm te σ G La O Lb Ob v0 d R mm) (hs : Hs fm G (La ++ (O ++ Lb)) H) (ob : Ob d v0 G O) (hm : Wp mm Q fm.xw)
    (k : ∀ x v G' O' H', Same G G' → Hs fm G' (La ++ (O' ++ Lb)) H' → Ob x.2 v0 G' O' → O'.map (·.1) = O.map (·.1) → R.r K G' v x.1 → Q x → D.rt v H') : tSeq (tRet te) tr D σ H :=
  he H hs ob _ (Res.wp_mono hm.out (fun x q v G2 O2 H2 a b c e r => k x v G2 O2 H2 a b c e r q) fun _ _ z => z)
/-! max of a list, of two -/
def maxL : List Int → Int
  | [] => 0
  | x :: xs => xs.foldl max x
theorem foldl_max : ∀ (xs : List Int) (x : Int), (xs.foldl max x = x ∨ xs.foldl max x ∈ xs) ∧ x ≤ xs.foldl max x ∧ ∀ y ∈ xs, y ≤ xs.foldl max x
  | [], x => ⟨.inl rfl, Int.le_refl _, fun y h => by cases h⟩
  | z :: xs, x => by
    obtain ⟨h1, h2, h3⟩ := foldl_max xs (max x z)
    rw [List.foldl_cons]
    refine ⟨?_, by omega, fun y hy => ?_⟩
    · rcases h1 with h | h
      · rw [h]
        by_cases hxz : x ≤ z
        · right; rw [Int.max_eq_right hxz]; exact List.mem_cons_self ..
        · left; exact Int.max_eq_left (by omega)
      · exact .inr (List.mem_cons_of_mem _ h)
    · rcases List.mem_cons.mp hy with rfl | hy
      · omega
      · exact h3 y hy
theorem maxL_mem {xs : List Int} (h : xs ≠ []) : maxL xs ∈ xs ∧ ∀ y ∈ xs, y ≤ maxL xs := by
  cases xs with
  | nil => exact absurd rfl h
  | cons x xs =>
    obtain ⟨h1, h2, h3⟩ := foldl_max xs x
    refine ⟨?_, fun y hy => ?_⟩
    · rcases h1 with h | h
      · show xs.foldl max x ∈ _; rw [h]; exact List.mem_cons_self ..
      · exact List.mem_cons_of_mem _ h
    · rcases List.mem_cons.mp hy with rfl | hy
      · exact h2
      · exact h3 y hy
def maxM (a : Res (List Int)) : Res Int := a.bind fun xs => if xs = [] then .stuck else .ok (maxL xs)
theorem e_maxL {m : Res (List Int)} (h : EvE K fm te σ G O (rL zI) m) : EvE K fm (tCB (rMax K) (tCons te tNil)) σ G O zI (maxM m) :=
  e_cb (a_one h) fun G1 H1 x vs k ⟨v, ev, p, ws, e, h, r⟩ Q q => by
    subst ev; subst e
    cases rls_enc (R := zI) (enc := V.int) (fun h => h) r
    by_cases hx : x = []
    · rw [if_pos hx] at q; exact q.elim
    · rw [if_neg hx] at q
      refine ⟨p, x, rfl, same_l k.gh h, List.length_pos_iff.mpr hx, fun m hm hu => ?_⟩
      obtain ⟨h1, h2⟩ := maxL_mem hx
      have : m = maxL x := Int.le_antisymm (h2 m hm) (hu _ h1)
      rw [this]
      exact q _ G1 H1 (Stp.refl k.gh) rfl
theorem w_retS {kr : α → ρ} (he : EvE K fm te σ G O R m) (hs : Hs fm G O H) (hm : Wp (m.bind fun r => .ok (kr r)) Q fm.xw)
    (k : ∀ r v G' H', Same G G' → Hs fm G' O H' → R.r K G' v r → Q (kr r) → D.rt v H') : tSeq (tRet te) tr D σ H :=
  he G H (Same.refl _) hs.kn _ (Res.wp_mono (Res.wp_bind hm.out) (fun x q v G2 H2 s r => k x v G2 H2 s.gg (hs.stp s) r q) fun _ _ z => z)
/-- xs.append(what writes the object), xs the own list at the place j -/
theorem w_appM {i : Nat} {l : Addr} {vs : List V} {xs : List α} {mm : Res (α × δ)} {mk : α × δ → Res ρ} (hx : σ[i]? = some (some (.ref l))) (hj : (l, HO.lst vs) ∈ La) (hlen : xs.length < lim) (hv : vs.length = xs.length)
    (he : EvM K fm te σ G La O Lb Ob v0 d R mm) (hs : Hs fm G (La ++ (O ++ Lb)) H) (ob : Ob d v0 G O) (hm : Wp (mm.bind mk) Q fm.xw)
    (k : ∀ x v G' O' H', Same G G' → Hs fm G' (La ++ (O' ++ Lb)) H' → Ob x.2 v0 G' O' → O'.map (·.1) = O.map (·.1) → R.r K G' v x.1 → Wp (mk x) Q fm.xw → tr D σ (upd H' l (.lst (vs ++ [v])))) : tSeq (tDrop (tBM K "list" rAppend (tVar i) (tCons te tNil))) tr D σ H :=
  ⟨_, hx, .inl ⟨rfl, vs, SqL.of (hs.kn.own _ (List.mem_append_left _ hj))⟩, he H hs ob _ (Res.wp_mono (Res.wp_bind hm.out) (fun x q v G2 O2 H2 a b c e r =>
    ⟨l, vs, v, rfl, rfl, b.kn.own _ (List.mem_append_left _ hj), by rw [hv, ← lim_eq]; exact hlen, k x v G2 O2 H2 a b c e r (.mk q)⟩) fun _ _ z => z)⟩
end
end Mw

namespace Mw
open PySem PySem.Spec PyProof.Rows L2
/-! ### arguments that write the object -/
section
variable {α β γ δ ρ : Type} {K : PySem.W.Frag} {fm : Fm} {σ : L2.St} {G G' H H' : Hp} {O O' La Lb : Own}
variable {te ta tb tc t1 t2 : TE} {R : Rp α} {S : Rp β} {T : Rp γ} {m : Res α}
variable {Ob : δ → V → Hp → Own → Prop} {d : δ} {v0 : V}
theorem m_pure (obm : ∀ d v G G' O, Same G G' → Ob d v G O → Ob d v G' O) (he : EvE K fm te σ G (La ++ (O ++ Lb)) R m) : EvM K fm te σ G La O Lb Ob v0 d R (m.bind fun x => .ok (x, d)) := fun H hs ob Q q =>
  he G H (Same.refl _) hs.kn Q (Res.wp_mono (Res.wp_bind q) (fun x q v G2 H2 s r => q v G2 O H2 s.gg (hs.stp s) (obm _ _ _ _ _ s.gg ob) rfl r) fun _ _ z => z)
theorem m_ifExp {c : TT} {mc : Res Bool} {ma mb : Res (α × δ)} (obm : ∀ d v G G' O, Same G G' → Ob d v G O → Ob d v G' O) (hc : EvT fm c σ G (La ++ (O ++ Lb)) mc)
    (ha : ∀ G', Same G G' → EvM K fm ta σ G' La O Lb Ob v0 d R ma) (hb : ∀ G', Same G G' → EvM K fm tb σ G' La O Lb Ob v0 d R mb) : EvM K fm (tIf c ta tb) σ G La O Lb Ob v0 d R (Res.ite mc ma mb) := fun H hs ob Q q =>
  hc G H (Same.refl _) hs.kn _ (Res.wp_mono (Res.wp_bind q) (fun x q G2 H2 s => by
    have ob2 := obm _ _ _ _ _ s.gg ob
    cases x with
    | true => exact ha G2 s.gg H2 (hs.stp s) ob2 Q (Res.wp_mono q (fun y q v G3 O3 H3 e => q v G3 O3 H3 (s.gg.trans e)) fun _ _ z => z)
    | false => exact hb G2 s.gg H2 (hs.stp s) ob2 Q (Res.wp_mono q (fun y q v G3 O3 H3 e => q v G3 O3 H3 (s.gg.trans e)) fun _ _ z => z)) fun _ _ z => z)
/-- o.m(a, b), b writes o, and so does m -/
theorem m_meth2 {f : δ → Int × Int → Res (α × δ)} {mt : Str} {p C dx : Addr} {fs : List (Str × V)} {m1 : Res Int} {mm2 : Res (Int × δ)} (obm : ∀ d v G G' O, Same G G' → Ob d v G O → Ob d v G' O)
    (hx : EvV fm te σ G (La ++ (O ++ Lb)) (.ref p)) (ho : (p, .ins C dx fs) ∈ La ++ (O ++ Lb)) (hl : fs.lookup mt = none) (h1 : EvE K fm t1 σ G (La ++ (O ++ Lb)) zI m1) (h2 : ∀ G', Same G G' → EvM K fm t2 σ G' La O Lb Ob (.ref p) d zI mm2) :
    EvM K fm (tMeth C mt (spM K fm.cl Ob (rsC zI (rs1 zI)) R f) [] fm.E te (tCons t1 (tCons t2 tNil))) σ G La O Lb Ob (.ref p) d R (m1.bind fun x => mm2.bind fun y => f y.2 (x, y.1)) := fun H hs ob Q q =>
  hx G H (Same.refl _) hs.kn _ ⟨p, dx, fs, rfl, hs.kn.own _ ho, hl, h1 G H (Same.refl _) hs.kn _ (Res.wp_mono (Res.wp_bind q) (fun x q v G1 H1 s r => by
    cases (show v = V.int x from r)
    refine h2 G1 s.gg H1 (hs.stp s) (obm _ _ _ _ _ s.gg ob) _ (Res.wp_mono (Res.wp_bind q) (fun y q w G2 O2 H2 e2 hs2 ob2 ea2 r2 => ?_) fun _ _ z => z)
    cases (show w = V.int y.1 from r2)
    refine ⟨without O2 H2, G2, O2, y.2, .ref p, _, (x, y.1), by rw [List.append_nil], hs2.sub, ob2, ⟨_, _, rfl, rfl, _, rfl, rfl⟩, .mk (Res.wp_mono q (fun z q v G3 O3 H3 h3 ob3 e3 r3 => ?_) fun c fs z => xw_sub hs2 z)⟩
    exact q v G3 O3 H3 ((s.gg.trans e2).trans h3.g0) (hs2.back h3 e3) ob3 (e3.trans ea2) r3) fun _ _ z => z)⟩
end
end Mw

namespace Mw
open PySem PySem.Spec PyProof.Rows L2
/-! ### enumerate(a tuple) -/
def IteT (K : PySem.W.Frag) (a : Addr) : It where
  go := fun i H => ∃ (xs : List V) (x : V), SqT K H a xs ∧ xs[i]? = some x
  yld := fun i H v H' => ∃ T x, v = .ref T ∧ H T = none ∧ H' = upd H T (.tup [.int (i : Nat), x]) ∧ ∀ xs, SqT K H a xs → xs[i]? = some x
  stop := fun i H => ∃ xs : List V, SqT K H a xs ∧ xs.length ≤ i
theorem ne_iter {h : Heap} {a it : Addr} {items : Array Value} {i : Nat} (ht : h.IsTuple a items) (hi : h.IsTupleIter it a i) : a ≠ it := by
  rintro rfl
  obtain ⟨o, ho, hc, _⟩ := ht
  obtain ⟨o', ho', hc', _⟩ := hi
  rw [ho] at ho'
  cases ho'
  rw [hc] at hc'
  exact absurd hc' (by decide)
theorem draws_out {prog : Program} {w : World} {A : Around} (hh : A.handled = none) (it t : Addr) (i : Nat) {items : Array Value} (hn : items[i]? = none) :
    Draws prog w A it [it, t] i (fun _ _ => True) (fun k h => k = i ∧ h.IsTupleIter it t i ∧ h.IsTuple t items) where
  live := fun _ _ st => let ⟨o, ho, _⟩ := st.2.1; ⟨o, ho⟩
  frame := fun _ _ _ st hk => ⟨st.1, st.2.1.at fun o e => hk it (by simp) o e, st.2.2.at fun o e => hk t (by simp) o e⟩
  item := fun k s Q E hi st hQ => absurd st.1 (by omega)
  done := fun s Q E st hE => wpAny_nextOf_tuple_end hh st.2.1 st.2.2 hn hE
theorem turn_enumT {P : Program} {w : World} {K : PySem.W.Frag} {elts : List Expr} {kk : Nat} {tpos : Pos} (a e it : Addr) : Turn P w K (.Tuple elts kk tpos) (IteT K a) [e, it] e (fun i h => (∃ old, IsEnum h e it ((i : Nat) : Int) old) ∧ h.IsTupleIter it a i ∧ e ≠ it) where
  mem := List.mem_cons_self ..
  obj := fun i h ⟨⟨old, he⟩, ⟨o, ho, hc, hd⟩, _⟩ b hb => by
    rcases List.mem_cons.mp hb with rfl | hb
    · exact ⟨_, he, fun v q => nomatch q⟩
    · rw [List.mem_singleton.mp hb]; exact ⟨o, ho, fun v q => by rw [hd] at q; cases q⟩
  keep := fun i h h' ⟨⟨old, he⟩, hi, hne⟩ k => ⟨⟨old, k e (List.mem_cons_self ..) _ he⟩, hi.at fun o q => k it (List.mem_cons_of_mem _ (List.mem_cons_self ..)) o q, hne⟩
  item := by
    rintro X rfl rfl rfl hc i pins s σ H E I hf ⟨⟨old, he⟩, hit, hne⟩ ⟨xs, x, hq, hx⟩
    obtain ⟨its, rv, p, _⟩ := I.tuple hq
    obtain ⟨u, hu, ru⟩ := rv.get hx
    have hlt : i < its.toArray.size := by simpa using (List.getElem?_eq_some_iff.mp hu).1
    have hea : e ≠ a := by
      rintro rfl
      obtain ⟨o, ho, hcl, _⟩ := p
      rw [show s.heap.get? e = some _ from he] at ho
      cases ho
      simp at hcl
    refine wpAny_pyNext_enum_itemD (Draws.tuple (prog := X.prog) (w := X.w) (A := X.A.in1) (show X.A.in1.handled = none from I.ok.hd hc) it a (ne_iter p hit) its.toArray) he ⟨hit, p⟩ hlt hne (by simp [hne, hea]) fun x' h1 tk hP ho st1 hT hsz hk => ?_
    have ex : x' = u := by
      have : its.toArray[i]? = some u := by simpa using hu
      rw [this] at hP
      exact (Option.some.inj hP).symm
    subst ex
    have hel := Heap.lt_size (show s.heap.get? e = some _ from he)
    have hil : it < s.heap.objs.size := Heap.lt_size hit.choose_spec.1
    refine ⟨_, rfl, wpAny_letOwnedTupleGo_enum (s := { s with heap := h1, toks := tk + 1 }) ho fun h2 he2 sb => ?_⟩
    have hT2 := (sb.2 _ (Nat.ne_of_gt hel)).trans hT
    have nw : ObjOk X.prog X.w (upd H s.heap.objs.size (.tup [.int (i : Nat), x])) h2 s.heap.objs.size (.tup [.int (i : Nat), x]) := ⟨by rw [sizeLine_eq]; simp, _, .cons ⟨_, rfl⟩ (.cons ru .nil), ⟨_, hT2, rfl, _, rfl⟩⟩
    have I1 := I.turnedNew (ch := [e, it]) (h' := h2) (t' := tk + 1) (fun b ob hb q => (sb.2 b (fun z => hb (by simp [z]))).trans (hk b ob (fun z => hb (by simp [z])) (fun z => hb (by simp [z])) q)) hf (Nat.le_refl _) nw
    have e1 : ((i + 1 : Nat) : Int) = (i : Int) + 1 := by omega
    exact ⟨.ref s.heap.objs.size, _, I1, rfl, ⟨_, x, rfl, I.hok.fresh (Nat.le_refl _), rfl, fun ys hy => by rw [I.tuple_inj hy hq]; exact hx⟩, ⟨⟨x', by rw [e1]; exact he2⟩, st1.1.at fun o q => (sb.2 it (Ne.symm hne)).trans q, hne⟩, fun b hb => by
      have hb' : b < s.heap.objs.size := by
        rcases List.mem_cons.mp hb with rfl | hb
        · exact hel
        · rw [List.mem_singleton.mp hb]; exact hil
      rw [upd_ne (Nat.ne_of_lt hb')]
      exact (hf b hb).1⟩
  done := by
    rintro X rfl rfl rfl hc i pins s σ H E I hf ⟨⟨old, he⟩, hit, hne⟩ ⟨xs, hq, hx⟩
    obtain ⟨its, rv, p, _⟩ := I.tuple hq
    obtain ⟨f0, f1, f2, f3, f4, f5⟩ := hf it (by simp)
    have hl := rv.length
    have hn : its.toArray[i]? = none := by simp; omega
    exact wpAny_pyNext_enum_endD (draws_out (prog := X.prog) (w := X.w) (A := X.A.in1) (show X.A.in1.handled = none from I.ok.hd hc) it a i hn) he ⟨rfl, hit, p⟩ fun h' eb => ⟨rfl, I.turned (t' := s.toks) (fun b o hb q => eb b o hb q) f0 f1 f3 f4 f5⟩
  self := fun A i s Q E ⟨⟨_, he⟩, _⟩ h => wpAny_pyIter_enum he h
/-- enumerate(v): an iterator of v, and the count over it -/
theorem meets_enum1 {v : Value} {o : Obj} {Hv : Heap → Prop} (B : Begins v o Hv) : Meets (Builtin.«enumerate.__new__» ⟨[.type "enumerate", v], []⟩) (fun _ R s => Hv s.heap ∧
    R (.ok (.ret (.ref (s.heap.push o).objs.size))) { s with heap := (s.heap.push o).push { cls := .type "enumerate", data := .fields #[.none, .bool false, .ref s.heap.objs.size, rawInt 0, .none, .none] } }) :=
  .of_wp fun pr wo Ar Rr sh hh => by
    obtain ⟨h0, g0, d0, t0, o0⟩ := sh
    obtain ⟨hv, hr⟩ := hh
    have sE := sub_enumerate
    have go : ∀ {A2 : Around} {E2 : Value → Shared → Prop} {Q2 : Value → Shared → Prop}, Q2 (.ref h0.objs.size) ⟨h0.push o, g0, d0, t0, o0⟩ → wpAny (model pr wo) A2 (pyIter v) Q2 E2 ⟨h0, g0, d0, t0, o0⟩ := fun q2 => B.iter pr wo _ _ ⟨h0, g0, d0, t0, o0⟩ _ hv q2
    wp_walk using go
    refine wpAny_stack_any fun stk => wpAny_pure ?_
    split
    · rename_i cc _ _ _ _ _
      cases (cc == Value.type "enumerate") <;> (wp_walk using go; exact ⟨_, rfl, hr⟩)
    · wp_walk using go
      exact ⟨_, rfl, hr⟩
section
variable {prog : Program} {w : World} {A : Around} {E : Value → Shared → Prop} {s : Shared}
theorem call_enumT {l : Addr} {items : Array Value} {Q : Value → Shared → Prop} (hL : s.heap.IsTuple l items)
    (h : ∀ h', IsEnum h' (s.heap.objs.size + 1) s.heap.objs.size 0 .none → h'.IsTupleIter s.heap.objs.size l 0 → (∀ b o, s.heap.get? b = some o → h'.get? b = some o) → Q (.ref (s.heap.objs.size + 1)) { s with heap := h' }) :
    wpAny (model prog w) A (call (.type "enumerate") [.ref l]) Q E s := by
  have B := begins_tuple l items
  refine callType_new F.called_enumerate (by decide) (F.typeCall_enumerate_1 _) (F.newCall_enumerate_1 _) (fun obj => F.args_object_init_2 obj _) F.entry_enumerate_new (meets_enum1 B) ⟨hL, ?_⟩
  generalize ho : ({ cls := .type "tuple_iterator", data := .fields #[.ref l, .int 0 0] } : Obj) = o at *
  have hz : (s.heap.push o).objs.size = s.heap.objs.size + 1 := Heap.size_push ..
  have fr : o.isFreed = false := B.free
  show _ ∧ _
  rw [hz]
  have hen : IsEnum ((s.heap.push o).push { cls := .type "enumerate", data := .fields #[.none, .bool false, .ref s.heap.objs.size, rawInt 0, .none, .none] }) (s.heap.objs.size + 1) s.heap.objs.size 0 .none := by
    have q := Heap.get?_push_size (s.heap.push o) (o := { cls := .type "enumerate", data := .fields #[.none, .bool false, .ref s.heap.objs.size, rawInt 0, .none, .none] }) rfl
    rwa [hz] at q
  exact ⟨⟨_, hen, rfl⟩, h _ hen (by subst ho; exact ⟨_, Heap.get?_push_of_some _ (Heap.get?_push_size _ rfl), rfl, rfl⟩) fun b u x => Heap.get?_push_of_some _ (Heap.get?_push_of_some _ x)⟩
end
def iEnumT (K : PySem.W.Frag) (ta : TA) : TI := fun σ H R => ta σ H fun vs H1 => ∃ a xs, vs = [.ref a] ∧ SqT K H1 a xs ∧ R (IteT K a) H1
theorem pi_enumT {X : Cx} {e : Expr} {ta : TA} {p pos tpos : Pos} {elts : List Expr} {kk : Nat} (hg : Gl X "enumerate") (hm : X.mg "enumerate" = none) (ha : PA X [e] ta) (hs : starEach [e] X.env = [(false, eval e X.env)] := by rfl) :
    PI X (.Tuple elts kk tpos) (.Call (.Name "enumerate" p) [e] [] pos) (iEnumT X.K ta) := ⟨fun pins s σ H R I h => Call_ (ld_blt I hg hm boot_enumerate (PyProof.Rows.callWith_type1 (thn (ha.run pos pins s σ H _ I h) fun us s1 ⟨vs, H1, I1, r1, a, xs, ex, hq, q⟩ => by
  subst ex
  obtain ⟨its, rv, p', _⟩ := I1.tuple hq
  cases r1 with
  | cons r rr =>
    cases rr
    cases r
    refine call_enumT p' fun h' he hit hk => wpAny_pyIter_enum he ?_
    refine ⟨s1.heap.objs.size + 1, [s1.heap.objs.size + 1, s1.heap.objs.size], _, _, H1, rfl, I1.kept (t' := s1.toks) hk, turn_enumT a (s1.heap.objs.size + 1) s1.heap.objs.size, ⟨⟨.none, he⟩, hit, Nat.succ_ne_self _⟩, fun b hb => ?_, q⟩
    have hle : s1.heap.objs.size ≤ b := by
      rcases List.mem_cons.mp hb with rfl | hb
      · exact Nat.le_succ _
      · rw [List.mem_singleton.mp hb]; exact Nat.le_refl _
    exact I1.fpOk hle (I1.hok.fresh hle)) hs rfl))⟩
section
variable {α : Type} {K : PySem.W.Frag} {fm : Fm} {σ : L2.St} {G : Hp} {O : Own} {te : TE} {R : Rp α}
theorem iteT_ok {p : Addr} {vs : List V} {xs : List α} (h : SqT K G p vs) (r : RLs R K G vs xs) : ItOk K G [] (rP2 zI R) (IteT K p) (enumL xs) where
  go := fun i G1 H a b _ hi => by
    rw [enumL_length] at hi
    obtain ⟨x, hx⟩ := paired_lt r hi
    exact ⟨vs, x, same_t (a.trans b) h, hx⟩
  stop := fun G1 H a b _ => ⟨vs, same_t (a.trans b) h, by rw [enumL_length]; exact Nat.le_of_eq (Paired.length r)⟩
  yld := fun i G1 H v H' a b _ hi y => by
    obtain ⟨p', x, ev, hp, eH, y⟩ := y
    subst ev eH
    obtain ⟨z, hz, rz⟩ := paired_get r (y vs (same_t (a.trans b) h))
    refine ⟨((i : Int), z), _, by simp [enumL, List.getElem?_mapIdx, hz], Stp.new b hp, p', _, rfl, .inl (.inl upd_same), _, _, rfl, rfl, _, rfl, R.mono (a.trans (same_new (same_back b hp))) rz⟩
theorem i_enumT {m : Res (List α)} (h : EvE K fm te σ G O (rT R) m) : EvI K fm (iEnumT K (tCons te tNil)) σ G O [] (rP2 zI R) (enumM m) := fun G1 H1 e k Q q =>
  h G1 H1 e k _ (Res.wp_mono (Res.wp_bind q) (fun xs f v G2 H2 s ⟨p, vs, ev, hq, r⟩ => by
    subst ev
    exact ⟨p, vs, rfl, same_t s.gh hq, f _ G2 H2 s (iteT_ok hq r)⟩) fun _ _ z => z)
end
end Mw

namespace Mw
open PySem PySem.Spec PyProof.Rows L2
/-! ### expressions that write one object, its state handed on -/
section
variable {fm : Fm} {G G' H H' : Hp} {O O' La Lb : Own}
theorem Hs.back2 (hs : Hs fm G (La ++ (O ++ Lb)) H) (h : Hs ⟨without O H, G, fm.E, fm.cl⟩ G' O' H') : Hs fm G' (La ++ (O' ++ Lb)) H' := by
  have nd := hs.nd
  rw [List.map_append, List.map_append] at nd
  obtain ⟨n1, n2, n3⟩ := List.nodup_append.mp nd
  obtain ⟨n4, n5, n6⟩ := List.nodup_append.mp n2
  have fo : ∀ b o, fm.F b = some o → b ∉ O.map (·.1) := fun b o hb hm => by
    obtain ⟨p, hp, rfl⟩ := List.mem_map.mp hm
    have := (hs.own p (List.mem_append_right _ (List.mem_append_left _ hp))).2.2
    rw [this] at hb
    cases hb
  have oth : ∀ p : Addr × HO, p ∈ La ++ (O ++ Lb) → p.1 ∉ O.map (·.1) → without O H p.1 = some p.2 ∧ H' p.1 = some p.2 ∧ G' p.1 = none ∧ fm.F p.1 = none := fun p hp ho => by
    obtain ⟨a, b, c⟩ := hs.own p hp
    have w : without O H p.1 = some p.2 := (without_out ho).trans a
    exact ⟨w, h.fr _ _ w, (h.old _ _ w).trans b, c⟩
  have inA : ∀ p, p ∈ La → p.1 ∉ O.map (·.1) := fun p hp hm => n3 p.1 (List.mem_map.mpr ⟨p, hp, rfl⟩) p.1 (List.mem_append_left _ hm) rfl
  have inB : ∀ p, p ∈ Lb → p.1 ∉ O.map (·.1) := fun p hp hm => n6 p.1 hm p.1 (List.mem_map.mpr ⟨p, hp, rfl⟩) rfl
  have dis : ∀ p : Addr × HO, p ∈ La ++ (O ++ Lb) → p.1 ∉ O.map (·.1) → ∀ q ∈ O', q.1 ≠ p.1 := fun p hp ho q hq e => by
    have w := (oth p hp ho).1
    have f := (h.own q hq).2.2
    rw [show ({ F := without O H, G0 := G, E := fm.E, cl := fm.cl } : Fm).F q.1 = without O H q.1 from rfl, e, w] at f
    cases f
  refine ⟨fun b o hb => h.fr b o ((without_out (fo b o hb)).trans (hs.fr b o hb)), hs.g0.trans h.g0, h.gh, fun b o hb => (h.old b o ((without_out (fo b o hb)).trans (hs.fr b o hb))).trans (hs.old b o hb), fun p hp => ?_, ?_⟩
  · rcases List.mem_append.mp hp with hp | hp
    · exact (oth p (List.mem_append_left _ hp) (inA p hp)).2
    · rcases List.mem_append.mp hp with hp | hp
      · obtain ⟨a, b, c⟩ := h.own p hp
        refine ⟨a, b, ?_⟩
        cases hf : fm.F p.1 with
        | none => rfl
        | some o =>
          have c' : without O H p.1 = none := c
          rw [without_out (fo _ _ hf), hs.fr _ _ hf] at c'
          cases c'
      · exact (oth p (List.mem_append_right _ (List.mem_append_right _ hp)) (inB p hp)).2
  · rw [List.map_append, List.map_append]
    refine List.nodup_append.mpr ⟨n1, List.nodup_append.mpr ⟨h.nd, n5, ?_⟩, ?_⟩
    · intro a ha b hb e
      obtain ⟨q, hq, rfl⟩ := List.mem_map.mp ha
      obtain ⟨p, hp, rfl⟩ := List.mem_map.mp hb
      exact dis p (List.mem_append_right _ (List.mem_append_right _ hp)) (inB p hp) q hq e
    · intro a ha b hb e
      obtain ⟨p, hp, rfl⟩ := List.mem_map.mp ha
      rcases List.mem_append.mp hb with hb | hb
      · obtain ⟨q, hq, rfl⟩ := List.mem_map.mp hb
        exact dis p (List.mem_append_left _ hp) (inA p hp) q hq e.symm
      · exact n3 p.1 ha b (List.mem_append_right _ hb) e
theorem Hs.perm {fm : Fm} {G H : Hp} {O O' : Own} (h : Hs fm G O H) (e : O'.Perm O) : Hs fm G O' H :=
  ⟨h.fr, h.g0, h.gh, h.old, fun p hp => h.own p (e.mem_iff.mp hp), (e.map _).nodup_iff.mpr h.nd⟩
/-- fewer cells of one's own -/
theorem Hs.less {fm : Fm} {G H : Hp} {O O' : Own} (h : Hs fm G O H) (e : O'.Sublist O) : Hs fm G O' H :=
  ⟨h.fr, h.g0, h.gh, h.old, fun p hp => h.own p (e.subset hp), (e.map _).nodup h.nd⟩
theorem Hs.only (h : Hs fm G (La ++ (O ++ Lb)) H) : Hs fm G O H := h.less ((List.sublist_append_left O Lb).trans (List.sublist_append_right La _))
theorem Hs.cut (h : Hs fm G (La ++ (O ++ Lb)) H) : Hs fm G La H := h.less (List.sublist_append_left La _)
theorem Hs.wrap (h : Hs fm G O H) : Hs fm G ([] ++ (O ++ [])) H := by rw [List.nil_append, List.append_nil]; exact h
end
def Obm {δ : Type} (Ob : δ → V → Hp → Own → Prop) : Prop := ∀ (d : δ) v G G' O, Same G G' → Ob d v G O → Ob d v G' O
/-- the place of the object among the arguments -/
def rsV {α : Type} (v0 : V) (S : Rps α) : Rps α := ⟨fun K G vs a => ∃ r, vs = v0 :: r ∧ S.r K G r a, fun e ⟨r, h, q⟩ => ⟨r, h, S.mono e q⟩⟩
def rs0 : Rps Unit := ⟨fun _ _ vs _ => vs = [], fun _ h => h⟩
/-- what a def that writes an object promises -/
def spN {α β δ : Type} (K : PySem.W.Frag) (cl : Nat → Addr) (Ob : δ → V → Hp → Own → Prop) (S : V → Rps α) (R : Rp β) (f : δ → α → Res (β × δ)) : Sp := fun vs H Q E => ∃ F G O d v0 a, Hs ⟨F, G, E, cl⟩ G O H ∧ Ob d v0 G O ∧ (S v0).r K G vs a ∧
  Wp (f d a) (fun x => ∀ v G' O' H', Hs ⟨F, G, E, cl⟩ G' O' H' → Ob x.2 v0 G' O' → R.r K G' v x.1 → Q v H') (Fm.xw ⟨F, G, E, cl⟩)
theorem spN_of {α β δ : Type} {K : PySem.W.Frag} {cl : Nat → Addr} {Ob : δ → V → Hp → Own → Prop} {S : Rps α} {R : Rp β} {f : δ → α → Res (β × δ)} (vs : List V) (H : Hp) (Q : VK) (E : XK)
    (h : spN K cl Ob (fun v0 => rsV v0 S) R f vs H Q E) : spM K cl Ob S R f vs H Q E := by
  obtain ⟨F, G, O, d, v0, a, hs, ob, ⟨r, rfl, hS⟩, hm⟩ := h
  exact ⟨F, G, O, d, v0, r, a, rfl, hs, ob, hS, .mk (Res.wp_mono hm.out (fun x q v G' O' H' h1 h2 _ h3 => q v G' O' H' h1 h2 h3) fun _ _ z => z)⟩
/-! state combinators -/
def pureS {α δ : Type} (m : δ → Res α) : δ → Res (α × δ) := fun d => (m d).bind fun x => .ok (x, d)
def pairS {α β δ : Type} (f : δ → Res (α × δ)) (g : δ → Res (β × δ)) : δ → Res ((α × β) × δ) := fun d => (f d).bind fun x => (g x.2).bind fun y => .ok ((x.1, y.1), y.2)
def callS {α β δ : Type} (f : δ → Res (α × δ)) (h : δ → α → Res (β × δ)) : δ → Res (β × δ) := fun d => (f d).bind fun x => h x.2 x.1
def mapS {α β δ : Type} (f : δ → Res (α × δ)) (h : α → Res β) : δ → Res (β × δ) := fun d => (f d).bind fun x => (h x.1).bind fun y => .ok (y, x.2)
def map2S {α β γ δ : Type} (f : δ → Res (α × δ)) (g : δ → Res (β × δ)) (h : α → β → Res γ) : δ → Res (γ × δ) := fun d => (f d).bind fun x => (g x.2).bind fun y => (h x.1 y.1).bind fun z => .ok (z, y.2)
def readS {α β δ : Type} (f : δ → Res (α × δ)) (h : δ → α → Res β) : δ → Res (β × δ) := fun d => (f d).bind fun x => (h x.2 x.1).bind fun y => .ok (y, x.2)
def iteS {α δ : Type} (c : δ → Res (Bool × δ)) (a b : δ → Res (α × δ)) : δ → Res (α × δ) := fun d => (c d).bind fun x => if x.1 = true then a x.2 else b x.2
def andS {δ : Type} (c a : δ → Res (Bool × δ)) : δ → Res (Bool × δ) := fun d => (c d).bind fun x => if x.1 = true then a x.2 else .ok (false, x.2)
def orS {δ : Type} (c a : δ → Res (Bool × δ)) : δ → Res (Bool × δ) := fun d => (c d).bind fun x => if x.1 = true then .ok (true, x.2) else a x.2
section
variable {α β γ δ ε ρ : Type} (K : PySem.W.Frag) (fm : Fm) (σ : L2.St) (G : Hp) (La Lb : Own) (Ob : δ → V → Hp → Own → Prop) (v0 : V)
def EvS (te : TE) (R : Rp α) (f : δ → Res (α × δ)) : Prop := ∀ d O G1 H1, Same G G1 → Hs fm G1 (La ++ (O ++ Lb)) H1 → Ob d v0 G1 O → ∀ Q : VK,
  (f d).wp (fun x => ∀ v G2 O2 H2, Same G1 G2 → Hs fm G2 (La ++ (O2 ++ Lb)) H2 → Ob x.2 v0 G2 O2 → R.r K G2 v x.1 → Q v H2) fm.xw → te σ H1 Q
def EvSA (ta : TA) (S : Rps α) (f : δ → Res (α × δ)) : Prop := ∀ d O G1 H1, Same G G1 → Hs fm G1 (La ++ (O ++ Lb)) H1 → Ob d v0 G1 O → ∀ Q : List V → Hp → Prop,
  (f d).wp (fun x => ∀ vs G2 O2 H2, Same G1 G2 → Hs fm G2 (La ++ (O2 ++ Lb)) H2 → Ob x.2 v0 G2 O2 → S.r K G2 vs x.1 → Q vs H2) fm.xw → ta σ H1 Q
def EvST (tt : TT) (f : δ → Res (Bool × δ)) : Prop := ∀ d O G1 H1, Same G G1 → Hs fm G1 (La ++ (O ++ Lb)) H1 → Ob d v0 G1 O → ∀ Q : Bool → Hp → Prop,
  (f d).wp (fun x => ∀ G2 O2 H2, Same G1 G2 → Hs fm G2 (La ++ (O2 ++ Lb)) H2 → Ob x.2 v0 G2 O2 → Q x.1 H2) fm.xw → tt σ H1 Q
end
/-- an object of the class at C, a method's name that no field has -/
def ObjM {δ : Type} (C : Addr) (Ob : δ → V → Hp → Own → Prop) (mt : Str) : Prop := ∀ d v G O, Ob d v G O → ∃ p dx fs, v = .ref p ∧ (p, .ins C dx fs) ∈ O ∧ fs.lookup mt = none
/-- the object as a value that is read -/
def Lends {δ ε : Type} (K : PySem.W.Frag) (Ob : δ → V → Hp → Own → Prop) (Ro : Rp ε) (ro : δ → ε) : Prop := ∀ fm d v G O O' H, Kn fm G O' H → (∀ p ∈ O, p ∈ O') → Ob d v G O → ∃ Gl, Same G Gl ∧ Same Gl H ∧ Ro.r K Gl v (ro d)
/-- the object's place becomes the read value's -/
structure Conv {α ε α' : Type} (K : PySem.W.Frag) (v0 : V) (S : Rps α) (Ro : Rp ε) (S' : Rps α') (ins : ε → α → α') : Prop where
  go : ∀ G vs a e, S.r K G vs a → Ro.r K G v0 e → S'.r K G vs (ins e a)
section
variable {α β γ δ ε ρ α' : Type} {K : PySem.W.Frag} {fm : Fm} {σ : L2.St} {G G' H H' : Hp} {O O' La Lb : Own} {Ob : δ → V → Hp → Own → Prop} {v0 : V} {d : δ}
variable {te ta tb tc : TE} {R : Rp α} {S : Rp β} {T : Rp γ} {m : Res α} {n : Res β} {f : δ → Res (α × δ)} {g : δ → Res (β × δ)}
variable {D : Ends} {tr tt tu tw : TS} {Q : ρ → Prop}
theorem cv_here {S : Rps α} {Ro : Rp ε} : Conv K v0 (rsV v0 S) Ro (rsC Ro S) (fun e a => (e, a)) := ⟨fun G vs a e ⟨r, h1, h2⟩ h3 => ⟨v0, r, h1, h3, h2⟩⟩
theorem cv_last {Ro : Rp ε} : Conv K v0 (rsV v0 rs0) Ro (rs1 Ro) (fun e _ => e) := ⟨fun G vs a e ⟨r, h1, h2⟩ h3 => ⟨v0, by rw [h1]; rw [show r = [] from h2], h3⟩⟩
theorem cv_next {S : Rps β} {Ro : Rp ε} {S' : Rps α'} {ins : ε → β → α'} (h : Conv K v0 S Ro S' ins) : Conv K v0 (rsC R S) Ro (rsC R S') (fun e a => (a.1, ins e a.2)) := ⟨fun G vs a e ⟨v, r, h1, h2, h3⟩ h4 => ⟨v, r, h1, h2, h.go _ _ _ _ h3 h4⟩⟩
theorem e_cv {v : V} {x : α} (r : R.r K G v x) : EvE K fm (tC v) σ G O R (.ok x) := fun G1 H1 a k Q q => q v G1 H1 (Stp.refl k.gh) (R.mono a r)
theorem z_pure {f : δ → Res α} (obm : Obm Ob) (h : ∀ d O G', Same G G' → Ob d v0 G' O → EvE K fm te σ G' (La ++ (O ++ Lb)) R (f d)) : EvS K fm σ G La Lb Ob v0 te R (pureS f) := fun d O G1 H1 e hs ob Q q =>
  h d O G1 e ob G1 H1 (Same.refl _) hs.kn Q (Res.wp_mono (Res.wp_bind q) (fun x q v G2 H2 s r => q v G2 O H2 s.gg (hs.stp s) (obm _ _ _ _ _ s.gg ob) r) fun _ _ z => z)
theorem z_pure0 (obm : Obm Ob) (h : ∀ O, EvE K fm te σ G (La ++ (O ++ Lb)) R m) : EvS K fm σ G La Lb Ob v0 te R (pureS fun _ => m) := z_pure obm fun d O G' e _ => (h O).mono e
theorem zt_pure {tt : TT} {f : δ → Res Bool} (obm : Obm Ob) (h : ∀ d O G', Same G G' → Ob d v0 G' O → EvT fm tt σ G' (La ++ (O ++ Lb)) (f d)) : EvST fm σ G La Lb Ob v0 tt (pureS f) := fun d O G1 H1 e hs ob Q q =>
  h d O G1 e ob G1 H1 (Same.refl _) hs.kn Q (Res.wp_mono (Res.wp_bind q) (fun x q G2 H2 s => q G2 O H2 s.gg (hs.stp s) (obm _ _ _ _ _ s.gg ob)) fun _ _ z => z)
theorem zt_pure0 {tt : TT} {m : Res Bool} (obm : Obm Ob) (h : ∀ O, EvT fm tt σ G (La ++ (O ++ Lb)) m) : EvST fm σ G La Lb Ob v0 tt (pureS fun _ => m) := zt_pure obm fun d O G' e _ => (h O).mono e
/-! arguments -/
theorem zA_nil : EvSA K fm σ G La Lb Ob v0 tNil rs0 (pureS fun _ => .ok ()) := fun d O G1 H1 e hs ob Q q => q [] G1 O H1 (Same.refl _) hs ob rfl
theorem zA_one (h : EvS K fm σ G La Lb Ob v0 te R f) : EvSA K fm σ G La Lb Ob v0 (tCons te tNil) (rs1 R) f := fun d O G1 H1 e hs ob Q q =>
  h d O G1 H1 e hs ob _ (Res.wp_mono q (fun x q v G2 O2 H2 e2 hs2 ob2 r => q [v] G2 O2 H2 e2 hs2 ob2 ⟨v, rfl, r⟩) fun _ _ z => z)
theorem zA_cons {S : Rps β} {t : TA} (h : EvS K fm σ G La Lb Ob v0 te R f) (hr : EvSA K fm σ G La Lb Ob v0 t S g) : EvSA K fm σ G La Lb Ob v0 (tCons te t) (rsC R S) (pairS f g) := fun d O G1 H1 e hs ob Q q =>
  h d O G1 H1 e hs ob _ (Res.wp_mono (Res.wp_bind q) (fun x q v G2 O2 H2 e2 hs2 ob2 r =>
    hr x.2 O2 G2 H2 (e.trans e2) hs2 ob2 _ (Res.wp_mono (Res.wp_bind q) (fun y q vs G3 O3 H3 e3 hs3 ob3 r' => q (v :: vs) G3 O3 H3 (e2.trans e3) hs3 ob3 ⟨v, vs, rfl, R.mono e3 r, r'⟩) fun _ _ z => z)) fun _ _ z => z)
theorem zA_obj {S : Rps β} {t : TA} {i : Nat} (hv : σ[i]? = some (some v0)) (h : EvSA K fm σ G La Lb Ob v0 t S g) : EvSA K fm σ G La Lb Ob v0 (tCons (tVar i) t) (rsV v0 S) g := fun d O G1 H1 e hs ob Q q =>
  ⟨v0, hv, h d O G1 H1 e hs ob _ (Res.wp_mono q (fun y q vs G3 O3 H3 e3 hs3 ob3 r' => q (v0 :: vs) G3 O3 H3 e3 hs3 ob3 ⟨vs, rfl, r'⟩) fun _ _ z => z)⟩
/-! calls -/
theorem z_call {S : V → Rps β} {t : TA} {ma : δ → Res (β × δ)} {h : δ → β → Res (α × δ)} (ha : EvSA K fm σ G La Lb Ob v0 t (S v0) ma) : EvS K fm σ G La Lb Ob v0 (tCall (spN K fm.cl Ob S R h) [] fm.E t) R (callS ma h) := fun d O G1 H1 e hs ob Q q =>
  ha d O G1 H1 e hs ob _ (Res.wp_mono (Res.wp_bind q) (fun x q vs G2 O2 H2 e2 hs2 ob2 r =>
    ⟨without O2 H2, G2, O2, x.2, v0, x.1, hs2.sub, ob2, by rw [List.append_nil]; exact r, .mk (Res.wp_mono q (fun y q v G3 O3 H3 hs3 ob3 r3 => q v G3 O3 H3 (e2.trans hs3.g0) (hs2.back2 hs3) ob3 r3) fun c fs z => xw_sub hs2 z)⟩) fun _ _ z => z)
theorem z_callP {S : Rps β} {t : TA} {ma : δ → Res (β × δ)} {h : β → Res α} (obm : Obm Ob) (ha : EvSA K fm σ G La Lb Ob v0 t S ma) : EvS K fm σ G La Lb Ob v0 (tCall (spP K fm.cl S R h) [] fm.E t) R (mapS ma h) := fun d O G1 H1 e hs ob Q q =>
  ha d O G1 H1 e hs ob _ (Res.wp_mono (Res.wp_bind q) (fun x q vs G2 O2 H2 e2 hs2 ob2 r =>
    ⟨G2, x.1, hs2.gh, by rw [List.append_nil]; exact r, .mk (Res.wp_mono (Res.wp_bind q) (fun y q v G3 H3 s r3 => q v G3 O2 H3 (e2.trans s.gg) (hs2.stp s) (obm _ _ _ _ _ s.gg ob2) r3) fun c fs z H' dd a b => z H' dd (hs2.fr.trans a) b)⟩) fun _ _ z => z)
theorem z_callR {Sg : Rps β} {Ss : Rps α'} {ins : ε → β → α'} {Ro : Rp ε} {ro : δ → ε} {t : TA} {ma : δ → Res (β × δ)} {h : α' → Res α} (obm : Obm Ob) (L : Lends K Ob Ro ro) (sc : Sc R) (cv : Conv K v0 Sg Ro Ss ins) (ha : EvSA K fm σ G La Lb Ob v0 t Sg ma) :
    EvS K fm σ G La Lb Ob v0 (tCall (spP K fm.cl Ss R h) [] fm.E t) R (readS ma fun d a => h (ins (ro d) a)) := fun d O G1 H1 e hs ob Q q =>
  ha d O G1 H1 e hs ob _ (Res.wp_mono (Res.wp_bind q) (fun x q vs G2 O2 H2 e2 hs2 ob2 r => by
    obtain ⟨Gl, e3, e4, rr⟩ := L fm x.2 v0 G2 O2 _ H2 hs2.kn (fun p hp => List.mem_append_right _ (List.mem_append_left _ hp)) ob2
    exact ⟨Gl, ins (ro x.2) x.1, e4, by rw [List.append_nil]; exact cv.go _ _ _ _ (Sg.mono e3 r) rr, .mk (Res.wp_mono (Res.wp_bind q) (fun y q v G3 H3 s r3 => q v G2 O2 H3 e2 (hs2.stp (Stp.grow hs2.gh s.hh)) ob2 (sc _ _ _ _ _ r3)) fun c fs z H' dd a b => z H' dd (hs2.fr.trans a) b)⟩) fun _ _ z => z)
theorem z_meth {S : Rps β} {t : TA} {i : Nat} {C : Addr} {mt : Str} {ma : δ → Res (β × δ)} {h : δ → β → Res (α × δ)} (hC : ObjM C Ob mt) (hv : σ[i]? = some (some v0)) (ha : EvSA K fm σ G La Lb Ob v0 t S ma) :
    EvS K fm σ G La Lb Ob v0 (tMeth C mt (spN K fm.cl Ob (fun v0 => rsV v0 S) R h) [] fm.E (tVar i) t) R (callS ma h) := fun d O G1 H1 e hs ob Q q => by
  obtain ⟨p, dx, fs, e0, hp, hl⟩ := hC _ _ _ _ ob
  refine ⟨v0, hv, p, dx, fs, e0, (hs.kn.own _ (List.mem_append_right _ (List.mem_append_left _ hp))), hl, ?_⟩
  exact ha d O G1 H1 e hs ob _ (Res.wp_mono (Res.wp_bind q) (fun x q vs G2 O2 H2 e2 hs2 ob2 r =>
    ⟨without O2 H2, G2, O2, x.2, v0, x.1, hs2.sub, ob2, by rw [List.append_nil]; exact ⟨vs, rfl, r⟩, .mk (Res.wp_mono q (fun y q v G3 O3 H3 hs3 ob3 r3 => q v G3 O3 H3 (e2.trans hs3.g0) (hs2.back2 hs3) ob3 r3) fun c fs z => xw_sub hs2 z)⟩) fun _ _ z => z)
/-- a method without arguments -/
theorem z_methR {Sg : Rps β} {Ro : Rp ε} {ro : δ → ε} {t : TA} {i : Nat} {C : Addr} {mt : Str} {ma : δ → Res (β × δ)} {h : ε × β → Res α} (obm : Obm Ob) (hC : ObjM C Ob mt) (L : Lends K Ob Ro ro) (sc : Sc R) (hv : σ[i]? = some (some v0)) (ha : EvSA K fm σ G La Lb Ob v0 t Sg ma) :
    EvS K fm σ G La Lb Ob v0 (tMeth C mt (spP K fm.cl (rsC Ro Sg) R h) [] fm.E (tVar i) t) R (readS ma fun d a => h (ro d, a)) := fun d O G1 H1 e hs ob Q q => by
  obtain ⟨p, dx, fs, e0, hp, hl⟩ := hC _ _ _ _ ob
  refine ⟨v0, hv, p, dx, fs, e0, (hs.kn.own _ (List.mem_append_right _ (List.mem_append_left _ hp))), hl, ?_⟩
  refine ha d O G1 H1 e hs ob _ (Res.wp_mono (Res.wp_bind q) (fun x q vs G2 O2 H2 e2 hs2 ob2 r => ?_) fun _ _ z => z)
  obtain ⟨Gl, e3, e4, rr⟩ := L fm x.2 v0 G2 O2 _ H2 hs2.kn (fun p hp => List.mem_append_right _ (List.mem_append_left _ hp)) ob2
  exact ⟨Gl, (ro x.2, x.1), e4, by rw [List.append_nil]; exact ⟨v0, vs, rfl, rr, Sg.mono e3 r⟩, .mk (Res.wp_mono (Res.wp_bind q) (fun y q v G3 H3 s r3 => q v G2 O2 H3 e2 (hs2.stp (Stp.grow hs2.gh s.hh)) ob2 (sc _ _ _ _ _ r3)) fun c fs z H' dd a b => z H' dd (hs2.fr.trans a) b)⟩
/-! operators over what writes -/
theorem z_op1 {Dv : V → TE} {h : α → Res γ} (obm : Obm Ob) (ha : EvS K fm σ G La Lb Ob v0 ta R f) (hp : ∀ v x G' O, Same G G' → R.r K G' v x → EvE K fm (Dv v) σ G' O T (h x)) (hC : ∀ H Q, (ta σ H fun v H1 => Dv v σ H1 Q) → te σ H Q) :
    EvS K fm σ G La Lb Ob v0 te T (mapS f h) := fun d O G1 H1 e hs ob Q q => hC _ _ <|
  ha d O G1 H1 e hs ob _ (Res.wp_mono (Res.wp_bind q) (fun x q v G2 O2 H2 e2 hs2 ob2 r =>
    hp v x.1 G2 _ (e.trans e2) r G2 H2 (Same.refl _) hs2.kn Q (Res.wp_mono (Res.wp_bind q) (fun y q v G3 H3 s r3 => q v G3 O2 H3 (e2.trans s.gg) (hs2.stp s) (obm _ _ _ _ _ s.gg ob2) r3) fun _ _ z => z)) fun _ _ z => z)
theorem z_op2 {Dv : V → V → TE} {h : α → β → Res γ} (obm : Obm Ob) (ha : EvS K fm σ G La Lb Ob v0 ta R f) (hb : EvS K fm σ G La Lb Ob v0 tb S g) (hp : ∀ v w x y G' O, Same G G' → R.r K G' v x → S.r K G' w y → EvE K fm (Dv v w) σ G' O T (h x y))
    (hC : ∀ H Q, (ta σ H fun v H1 => tb σ H1 fun w H2 => Dv v w σ H2 Q) → te σ H Q) : EvS K fm σ G La Lb Ob v0 te T (map2S f g h) := fun d O G1 H1 e hs ob Q q => hC _ _ <|
  ha d O G1 H1 e hs ob _ (Res.wp_mono (Res.wp_bind q) (fun x q v G2 O2 H2 e2 hs2 ob2 r =>
    hb x.2 O2 G2 H2 (e.trans e2) hs2 ob2 _ (Res.wp_mono (Res.wp_bind q) (fun y q w G3 O3 H3 e3 hs3 ob3 r' =>
      hp v w x.1 y.1 G3 _ ((e.trans e2).trans e3) (R.mono e3 r) r' G3 H3 (Same.refl _) hs3.kn Q (Res.wp_mono (Res.wp_bind q) (fun z q v G4 H4 s r3 => q v G4 O3 H4 ((e2.trans e3).trans s.gg) (hs3.stp s) (obm _ _ _ _ _ s.gg ob3) r3) fun _ _ z => z)) fun _ _ z => z)) fun _ _ z => z)
theorem z_ite {c : TT} {mc : δ → Res (Bool × δ)} {g : δ → Res (α × δ)} (hc : EvST fm σ G La Lb Ob v0 c mc) (ha : EvS K fm σ G La Lb Ob v0 ta R f) (hb : EvS K fm σ G La Lb Ob v0 tb R g) : EvS K fm σ G La Lb Ob v0 (tIf c ta tb) R (iteS mc f g) := fun d O G1 H1 e hs ob Q q =>
  hc d O G1 H1 e hs ob _ (Res.wp_mono (Res.wp_bind q) (fun x q G2 O2 H2 e2 hs2 ob2 => by
    obtain ⟨b, d2⟩ := x
    cases b with
    | true => exact ha d2 O2 G2 H2 (e.trans e2) hs2 ob2 Q (Res.wp_mono q (fun y q v G3 O3 H3 e3 => q v G3 O3 H3 (e2.trans e3)) fun _ _ z => z)
    | false => exact hb d2 O2 G2 H2 (e.trans e2) hs2 ob2 Q (Res.wp_mono q (fun y q v G3 O3 H3 e3 => q v G3 O3 H3 (e2.trans e3)) fun _ _ z => z)) fun _ _ z => z)
/-! tests -/
theorem zt_val {f : δ → Res (Bool × δ)} (h : EvS K fm σ G La Lb Ob v0 te rB f) : EvST fm σ G La Lb Ob v0 (tB te) f := fun d O G1 H1 e hs ob Q q =>
  h d O G1 H1 e hs ob _ (Res.wp_mono q (fun x q v G2 O2 H2 e2 hs2 ob2 r => ⟨x.1, r, q G2 O2 H2 e2 hs2 ob2⟩) fun _ _ z => z)
theorem zt_test {f : δ → Res (Bool × δ)} (h : EvS K fm σ G La Lb Ob v0 te rB f) : EvST fm σ G La Lb Ob v0 (tTest te) f := zt_val h
theorem zt_not {t : TT} {f : δ → Res (Bool × δ)} (h : EvST fm σ G La Lb Ob v0 t f) : EvST fm σ G La Lb Ob v0 (tNot t) (mapS f fun b => .ok (!b)) := fun d O G1 H1 e hs ob Q q =>
  h d O G1 H1 e hs ob _ (Res.wp_mono (Res.wp_bind q) (fun x q G2 O2 H2 e2 hs2 ob2 => q G2 O2 H2 e2 hs2 ob2) fun _ _ z => z)
theorem zt_and {t u : TT} {f g : δ → Res (Bool × δ)} (h : EvST fm σ G La Lb Ob v0 t f) (h' : EvST fm σ G La Lb Ob v0 u g) : EvST fm σ G La Lb Ob v0 (tAnd t u) (andS f g) := fun d O G1 H1 e hs ob Q q =>
  h d O G1 H1 e hs ob _ (Res.wp_mono (Res.wp_bind q) (fun x q G2 O2 H2 e2 hs2 ob2 => by
    obtain ⟨b, d2⟩ := x
    cases b with
    | true => exact h' d2 O2 G2 H2 (e.trans e2) hs2 ob2 Q (Res.wp_mono q (fun y q G3 O3 H3 e3 => q G3 O3 H3 (e2.trans e3)) fun _ _ z => z)
    | false => exact q G2 O2 H2 e2 hs2 ob2) fun _ _ z => z)
theorem zt_or {t u : TT} {f g : δ → Res (Bool × δ)} (h : EvST fm σ G La Lb Ob v0 t f) (h' : EvST fm σ G La Lb Ob v0 u g) : EvST fm σ G La Lb Ob v0 (tOr t u) (orS f g) := fun d O G1 H1 e hs ob Q q =>
  h d O G1 H1 e hs ob _ (Res.wp_mono (Res.wp_bind q) (fun x q G2 O2 H2 e2 hs2 ob2 => by
    obtain ⟨b, d2⟩ := x
    cases b with
    | false => exact h' d2 O2 G2 H2 (e.trans e2) hs2 ob2 Q (Res.wp_mono q (fun y q G3 O3 H3 e3 => q G3 O3 H3 (e2.trans e3)) fun _ _ z => z)
    | true => exact q G2 O2 H2 e2 hs2 ob2) fun _ _ z => z)
theorem z_and {f g : δ → Res (Bool × δ)} (h : EvS K fm σ G La Lb Ob v0 ta rB f) (h' : EvS K fm σ G La Lb Ob v0 tb rB g) : EvS K fm σ G La Lb Ob v0 (tAndV ta tb) rB (andS f g) := fun d O G1 H1 e hs ob Q q =>
  h d O G1 H1 e hs ob _ (Res.wp_mono (Res.wp_bind q) (fun x q v G2 O2 H2 e2 hs2 ob2 r => ⟨x.1, r, by
    obtain ⟨b, d2⟩ := x
    cases b with
    | true => exact h' d2 O2 G2 H2 (e.trans e2) hs2 ob2 Q (Res.wp_mono q (fun y q v G3 O3 H3 e3 => q v G3 O3 H3 (e2.trans e3)) fun _ _ z => z)
    | false => exact q _ G2 O2 H2 e2 hs2 ob2 rfl⟩) fun _ _ z => z)
theorem z_or {f g : δ → Res (Bool × δ)} (h : EvS K fm σ G La Lb Ob v0 ta rB f) (h' : EvS K fm σ G La Lb Ob v0 tb rB g) : EvS K fm σ G La Lb Ob v0 (tOrV ta tb) rB (orS f g) := fun d O G1 H1 e hs ob Q q =>
  h d O G1 H1 e hs ob _ (Res.wp_mono (Res.wp_bind q) (fun x q v G2 O2 H2 e2 hs2 ob2 r => ⟨x.1, r, by
    obtain ⟨b, d2⟩ := x
    cases b with
    | false => exact h' d2 O2 G2 H2 (e.trans e2) hs2 ob2 Q (Res.wp_mono q (fun y q v G3 O3 H3 e3 => q v G3 O3 H3 (e2.trans e3)) fun _ _ z => z)
    | true => exact q _ G2 O2 H2 e2 hs2 ob2 rfl⟩) fun _ _ z => z)
/-! what reads the object in a pure expression -/
theorem e_lendZ {Ro : Rp ε} {ro : δ → ε} (obm : Obm Ob) (L : Lends K Ob Ro ro) (sc : Sc R) (ob : Ob d v0 G O) (h : ∀ G', Same G G' → Ro.r K G' v0 (ro d) → EvE K fm te σ G' (La ++ (O ++ Lb)) R m) : EvE K fm te σ G (La ++ (O ++ Lb)) R m := fun G1 H1 e k Q q => by
  obtain ⟨Gl, e3, e4, rr⟩ := L fm d v0 G1 O _ H1 k (fun p hp => List.mem_append_right _ (List.mem_append_left _ hp)) (obm _ _ _ _ _ e ob)
  exact h Gl (e.trans e3) rr Gl H1 (Same.refl _) ⟨k.fr, e4, k.own⟩ Q (Res.wp_mono q (fun x q v G2 H2 s r => q v G1 H2 (Stp.grow k.gh s.hh) (sc _ _ _ _ _ r)) fun _ _ z => z)
theorem n_lendZ {Ro : Rp ε} {ro : δ → ε} {m : Res (List α)} (obm : Obm Ob) (L : Lends K Ob Ro ro) (sc : Sc R) (ob : Ob d v0 G O) (h : ∀ G', Same G G' → Ro.r K G' v0 (ro d) → EvN K fm te σ G' (La ++ (O ++ Lb)) R m) : EvN K fm te σ G (La ++ (O ++ Lb)) R m := fun G1 H1 e k Q q => by
  obtain ⟨Gl, e3, e4, rr⟩ := L fm d v0 G1 O _ H1 k (fun p hp => List.mem_append_right _ (List.mem_append_left _ hp)) (obm _ _ _ _ _ e ob)
  exact h Gl (e.trans e3) rr Gl H1 (Same.refl _) ⟨k.fr, e4, k.own⟩ Q (Res.wp_mono q (fun xs q p vs G2 H2 s hp gp hl r => q p vs G1 H2 (Stp.grow k.gh s.hh) hp (same_back k.gh hp) hl (Paired.mapP r fun _ _ z => sc _ _ _ _ _ z)) fun _ _ z => z)
theorem t_lendZ {Ro : Rp ε} {ro : δ → ε} {t : TT} {m : Res Bool} (obm : Obm Ob) (L : Lends K Ob Ro ro) (ob : Ob d v0 G O) (h : ∀ G', Same G G' → Ro.r K G' v0 (ro d) → EvT fm t σ G' (La ++ (O ++ Lb)) m) : EvT fm t σ G (La ++ (O ++ Lb)) m := fun G1 H1 e k Q q => by
  obtain ⟨Gl, e3, e4, rr⟩ := L fm d v0 G1 O _ H1 k (fun p hp => List.mem_append_right _ (List.mem_append_left _ hp)) (obm _ _ _ _ _ e ob)
  exact h Gl (e.trans e3) rr Gl H1 (Same.refl _) ⟨k.fr, e4, k.own⟩ Q (Res.wp_mono q (fun x q G2 H2 s => q G1 H2 (Stp.grow k.gh s.hh)) fun _ _ z => z)
/-! statements -/
theorem w_asgZ {g : TG} {Ss : Rps α} {is : List Nat} {mk : α × δ → Res ρ} (tg : Tgt K g R Ss is) (he : EvS K fm σ G La Lb Ob v0 te R f) (hs : Hs fm G (La ++ (O ++ Lb)) H) (ob : Ob d v0 G O) (hm : Wp ((f d).bind mk) Q fm.xw)
    (k : ∀ x vs G' O' H', Same G G' → Hs fm G' (La ++ (O' ++ Lb)) H' → Ob x.2 v0 G' O' → Ss.r K G' vs x.1 → Wp (mk x) Q fm.xw → tr D (setL σ is vs) H') : tSeq (tAsg te g) tr D σ H :=
  he d O G H (Same.refl _) hs ob _ (Res.wp_mono (Res.wp_bind hm.out) (fun x q v G2 O2 H2 e2 hs2 ob2 r => tg G2 H2 v x.1 σ _ hs2.gh r fun vs rv => k x vs G2 O2 H2 e2 hs2 ob2 rv (.mk q)) fun _ _ z => z)
theorem w_dropZ {mk : α × δ → Res ρ} (he : EvS K fm σ G La Lb Ob v0 te R f) (hs : Hs fm G (La ++ (O ++ Lb)) H) (ob : Ob d v0 G O) (hm : Wp ((f d).bind mk) Q fm.xw)
    (k : ∀ x G' O' H', Same G G' → Hs fm G' (La ++ (O' ++ Lb)) H' → Ob x.2 v0 G' O' → Wp (mk x) Q fm.xw → tr D σ H') : tSeq (tDrop te) tr D σ H :=
  he d O G H (Same.refl _) hs ob _ (Res.wp_mono (Res.wp_bind hm.out) (fun x q v G2 O2 H2 e2 hs2 ob2 r => k x G2 O2 H2 e2 hs2 ob2 (.mk q)) fun _ _ z => z)
theorem w_retZ {kr : α × δ → ρ} (he : EvS K fm σ G La Lb Ob v0 te R f) (hs : Hs fm G (La ++ (O ++ Lb)) H) (ob : Ob d v0 G O) (hm : Wp ((f d).bind fun r => .ok (kr r)) Q fm.xw)
    (k : ∀ x v G' O' H', Same G G' → Hs fm G' (La ++ (O' ++ Lb)) H' → Ob x.2 v0 G' O' → R.r K G' v x.1 → Q (kr x) → D.rt v H') : tSeq (tRet te) tr D σ H :=
  he d O G H (Same.refl _) hs ob _ (Res.wp_mono (Res.wp_bind hm.out) (fun x q v G2 O2 H2 e2 hs2 ob2 r => k x v G2 O2 H2 e2 hs2 ob2 r q) fun _ _ z => z)
theorem w_retZ0 {Q : α × δ → Prop} (he : EvS K fm σ G La Lb Ob v0 te R f) (hs : Hs fm G (La ++ (O ++ Lb)) H) (ob : Ob d v0 G O) (hm : Wp (f d) Q fm.xw)
    (k : ∀ x v G' O' H', Same G G' → Hs fm G' (La ++ (O' ++ Lb)) H' → Ob x.2 v0 G' O' → R.r K G' v x.1 → Q x → D.rt v H') : tSeq (tRet te) tr D σ H :=
  he d O G H (Same.refl _) hs ob _ (Res.wp_mono hm.out (fun x q v G2 O2 H2 e2 hs2 ob2 r => k x v G2 O2 H2 e2 hs2 ob2 r q) fun _ _ z => z)
theorem w_ifZ {c : TT} {mc : δ → Res (Bool × δ)} {a b : δ → Res ρ} (hc : EvST fm σ G La Lb Ob v0 c mc) (hs : Hs fm G (La ++ (O ++ Lb)) H) (ob : Ob d v0 G O) (hm : Wp ((mc d).bind fun x => if x.1 = true then a x.2 else b x.2) Q fm.xw)
    (h1 : ∀ d' G' O' H', Same G G' → Hs fm G' (La ++ (O' ++ Lb)) H' → Ob d' v0 G' O' → Wp (a d') Q fm.xw → tt { D with nx := tr D } σ H') (h2 : ∀ d' G' O' H', Same G G' → Hs fm G' (La ++ (O' ++ Lb)) H' → Ob d' v0 G' O' → Wp (b d') Q fm.xw → tu { D with nx := tr D } σ H') : tSeq (tIfS c tt tu) tr D σ H :=
  hc d O G H (Same.refl _) hs ob _ (Res.wp_mono (Res.wp_bind hm.out) (fun x q G2 O2 H2 e2 hs2 ob2 => by
    obtain ⟨k, d2⟩ := x
    cases k with
    | true => exact h1 d2 G2 O2 H2 e2 hs2 ob2 (.mk q)
    | false => exact h2 d2 G2 O2 H2 e2 hs2 ob2 (.mk q)) fun _ _ z => z)
end
end Mw

namespace Mw
open PySem PySem.Spec PyProof.Rows L2
/-! ### loops whose returns tell the object's state -/
structure ZEnds {S ρ : Type} (fm : Fm) (G : Hp) (W : S → L2.St → Hp → Own → Prop) (RT : ρ → V → Hp → Own → Prop) (Qb : Tn S ρ → Prop) (D : Ends) : Prop where
  nx : ∀ s σ G1 G2 O H, Same G G2 → W s σ G1 O → Same G1 G2 → Hs fm G2 O H → Qb (.nx s) → D.nx σ H
  ct : ∀ s σ G1 G2 O H, Same G G2 → W s σ G1 O → Same G1 G2 → Hs fm G2 O H → Qb (.nx s) → D.ct σ H
  bk : ∀ s σ G1 G2 O H, Same G G2 → W s σ G1 O → Same G1 G2 → Hs fm G2 O H → Qb (.bk s) → D.bk σ H
  rt : ∀ r v G2 O H, Hs fm G2 O H → RT r v G2 O → Qb (.rt r) → D.rt v H
section
variable {α β γ δ ρ : Type} {K : PySem.W.Frag} {fm : Fm} {σ : L2.St} {G G' H H' : Hp} {O : Own}
variable {te ta tb tc : TE} {R : Rp α} {S : Rp β} {T : Rp γ} {m : Res α} {n : Res β}
variable {D : Ends} {tr tt tu tw : TS} {Q : ρ → Prop}
theorem s_forBZ {Oi : Own} {S : Type} {Sr : Type} {ti : TI} {g : TG} {Ss : Rps α} {is : List Nat} {m : Res (List α)} {f : α → S → Res (Tn S Sr)} {mk : Lp S Sr → Res ρ} {s0 : S} (W : S → L2.St → Hp → Own → Prop) (RT : Sr → V → Hp → Own → Prop)
    (hi : EvI K fm ti σ G O Oi R m) (hO : ∀ s σ G O, W s σ G O → ∀ p ∈ Oi, p ∈ O) (tg : Tgt K g R Ss is) (hs : Hs fm G O H) (hm : ((m.bind fun xs => forB f xs s0).bind mk).wp Q fm.xw) (h0 : W s0 σ G O)
    (hb : ∀ x s σ' G1 G' O' H' vs (D' : Ends) (Qb : Tn S Sr → Prop), Same G G' → W s σ' G1 O' → Same G1 G' → Hs fm G' O' H' → Ss.r K G' vs x → ZEnds fm G' W RT Qb D' → (f x s).wp Qb fm.xw → tw D' (setL σ' is vs) H')
    (hn : ∀ s σ' G1 G' O' H', Same G G' → W s σ' G1 O' → Same G1 G' → Hs fm G' O' H' → (mk (.nx s)).wp Q fm.xw → tr D σ' H')
    (hr : ∀ r v G2 O2 H2, Hs fm G2 O2 H2 → RT r v G2 O2 → (mk (.rt r)).wp Q fm.xw → D.rt v H2) : tSeq (tFor ti g tw) tr D σ H := by
  refine hi G H (Same.refl _) hs.kn _ (Res.wp_mono (Res.wp_bind (Res.wp_bind hm)) (fun xs q J G2 H2 s it => ?_) fun _ _ z => z)
  refine ⟨fun i mm σ' H' => mm = xs.length - i ∧ i ≤ xs.length ∧ ∃ s' G1 G' O', Same G2 G' ∧ W s' σ' G1 O' ∧ Same G1 G' ∧ Hs fm G' O' H' ∧ ((forB f (xs.drop i) s').bind mk).wp Q fm.xw,
    ⟨xs.length, by simp, Nat.zero_le _, s0, G, G2, O, Same.refl _, h0, s.gg, hs.stp s, by
      rw [List.drop_zero]
      cases hx : forB f xs s0 with
      | ok a => rw [hx] at q; exact q
      | exc c fs => rw [hx] at q; exact q
      | stuck => rw [hx] at q; exact q⟩, ?_⟩
  rintro i mm σ' H' ⟨rfl, hle, s', G1, G', O', g2, w, g1, hs', q'⟩
  by_cases hlt : i < xs.length
  · refine .inr ⟨it.go i G' H' g2 hs'.gh (fun p hp => (hs'.own p (hO _ _ _ _ w p hp)).1) hlt, _, fun σ2 H2 z => ⟨xs.length - (i + 1), by omega, z⟩, fun v H3 y => ?_⟩
    obtain ⟨x, G4, hx, s4, rx⟩ := it.yld i G' H' v H3 g2 hs'.gh (fun p hp => (hs'.own p (hO _ _ _ _ w p hp)).1) hlt y
    have hdrop : xs.drop i = x :: xs.drop (i + 1) := by
      obtain ⟨h1, h2⟩ := List.getElem?_eq_some_iff.mp hx
      rw [List.drop_eq_getElem_cons h1, h2]
    rw [hdrop] at q'
    refine tg G4 H3 v x _ _ s4.gh rx fun vs rvs => ?_
    refine hb x s' σ' G1 G4 O' H3 vs _ (fun t => ((match t with | .nx s' => forB f (xs.drop (i + 1)) s' | .bk s' => .ok (.nx s') | .rt r => .ok (.rt r)).bind mk).wp Q fm.xw) ((s.gg.trans g2).trans s4.gg) w (g1.trans s4.gg) (hs'.stp s4) rvs ⟨?_, ?_, ?_, ?_⟩ (Res.wp_bind (by
      have := q'
      rw [forB] at this
      cases hx : f x s' with
      | ok a => rw [hx] at this; exact this
      | exc c fs => rw [hx] at this; exact this
      | stuck => rw [hx] at this; exact this))
    · exact fun s5 σ5 G5 G6 O5 H5 a b c d e => ⟨rfl, hlt, s5, G5, G6, O5, (g2.trans s4.gg).trans a, b, c, d, e⟩
    · exact fun s5 σ5 G5 G6 O5 H5 a b c d e => ⟨rfl, hlt, s5, G5, G6, O5, (g2.trans s4.gg).trans a, b, c, d, e⟩
    · exact fun s5 σ5 G5 G6 O5 H5 a b c d e => hn s5 σ5 G5 G6 O5 H5 (((s.gg.trans g2).trans s4.gg).trans a) b c d e
    · exact fun r v G5 O5 H5 a b c => hr r v G5 O5 H5 a b c
  · have ei : i = xs.length := by omega
    subst ei
    rw [List.drop_length] at q'
    exact .inl ⟨it.stop G' H' g2 hs'.gh (fun p hp => (hs'.own p (hO _ _ _ _ w p hp)).1), hn s' σ' G1 G' O' H' (s.gg.trans g2) w g1 hs' q'⟩
theorem s_whBZ {S : Type} {Sr : Type} {c : TT} {mc : S → Res Bool} {f : S → Res (Tn S Sr)} {mk : Lp S Sr → Res ρ} {s0 : S} {fuel : Nat} (W : S → L2.St → Hp → Own → Prop) (RT : Sr → V → Hp → Own → Prop)
    (hs : Hs fm G O H) (hm : ((whB mc f fuel s0).bind mk).wp Q fm.xw) (h0 : W s0 σ G O)
    (hc : ∀ s σ' G1 G' O', Same G G' → W s σ' G1 O' → Same G1 G' → EvT fm c σ' G' O' (mc s))
    (hb : ∀ s σ' G1 G' O' H' (D' : Ends) (Qb : Tn S Sr → Prop), Same G G' → W s σ' G1 O' → Same G1 G' → Hs fm G' O' H' → ZEnds fm G' W RT Qb D' → (f s).wp Qb fm.xw → tw D' σ' H')
    (hn : ∀ s σ' G1 G' O' H', Same G G' → W s σ' G1 O' → Same G1 G' → Hs fm G' O' H' → (mk (.nx s)).wp Q fm.xw → tr D σ' H')
    (hr : ∀ r v G2 O2 H2, Hs fm G2 O2 H2 → RT r v G2 O2 → (mk (.rt r)).wp Q fm.xw → D.rt v H2) : tSeq (tWhile c tw) tr D σ H := by
  refine ⟨fun mm σ' H' => ∃ s' G1 G' O', Same G G' ∧ W s' σ' G1 O' ∧ Same G1 G' ∧ Hs fm G' O' H' ∧ ((whB mc f mm s').bind mk).wp Q fm.xw, ⟨fuel, s0, G, G, O, Same.refl _, h0, Same.refl _, hs, hm⟩, ?_⟩
  rintro mm σ' H' ⟨s', G1, G', O', g, w, g1, hs', q'⟩
  cases mm with
  | zero => exact q'.elim
  | succ mm =>
    have q1 : (mc s').wp (fun b => ((if b = true then (f s').bind fun t => match t with | .nx s' => whB mc f mm s' | .bk s' => .ok (.nx s') | .rt r => .ok (.rt r) else .ok (.nx s')).bind mk).wp Q fm.xw) fm.xw := by
      rw [whB] at q'
      cases hx : mc s' with
      | ok a => rw [hx] at q'; exact q'
      | exc c fs => rw [hx] at q'; exact q'
      | stuck => rw [hx] at q'; exact q'
    refine hc s' σ' G1 G' O' g w g1 G' H' (Same.refl _) hs'.kn _ (Res.wp_mono q1 (fun b q2 G2 H2 s2 => ?_) fun _ _ z => z)
    cases b with
    | true =>
      refine iteT ⟨_, fun σ2 H2 z => ⟨mm, Nat.lt_succ_self _, z⟩, ?_⟩
      rw [if_pos rfl] at q2
      refine hb s' σ' G1 G2 O' H2 _ (fun t => ((match t with | .nx s' => whB mc f mm s' | .bk s' => .ok (.nx s') | .rt r => .ok (.rt r)).bind mk).wp Q fm.xw) (g.trans s2.gg) w (g1.trans s2.gg) (hs'.stp s2) ⟨?_, ?_, ?_, ?_⟩ (Res.wp_bind (by
        cases hx : f s' with
        | ok a => rw [hx] at q2; exact q2
        | exc c fs => rw [hx] at q2; exact q2
        | stuck => rw [hx] at q2; exact q2))
      · exact fun s5 σ5 G5 G6 O5 H5 a b c d e => ⟨s5, G5, G6, O5, (g.trans s2.gg).trans a, b, c, d, e⟩
      · exact fun s5 σ5 G5 G6 O5 H5 a b c d e => ⟨s5, G5, G6, O5, (g.trans s2.gg).trans a, b, c, d, e⟩
      · exact fun s5 σ5 G5 G6 O5 H5 a b c d e => hn s5 σ5 G5 G6 O5 H5 ((g.trans s2.gg).trans a) b c d e
      · exact fun r v G5 O5 H5 a b c => hr r v G5 O5 H5 a b c
    | false =>
      refine iteF ?_
      rw [if_neg Bool.false_ne_true] at q2
      exact hn s' σ' G1 G2 O' H2 (g.trans s2.gg) w (g1.trans s2.gg) (hs'.stp s2) q2
theorem w_forBZ {Oi : Own} {S : Type} {Sr : Type} {ti : TI} {g : TG} {Ss : Rps α} {is : List Nat} {m : Res (List α)} {f : α → S → Res (Tn S Sr)} {N : S → Res ρ} {Rt : Sr → Res ρ} {s0 : S} (W : S → L2.St → Hp → Own → Prop) (RT : Sr → V → Hp → Own → Prop)
    (hi : EvI K fm ti σ G O Oi R m) (hO : ∀ s σ G O, W s σ G O → ∀ p ∈ Oi, p ∈ O) (tg : Tgt K g R Ss is) (hs : Hs fm G O H) (hm : Wp ((m.bind fun xs => forB f xs s0).bind (Lp.el N Rt)) Q fm.xw) (h0 : W s0 σ G O)
    (hr : ∀ r v G2 O2 H2, Hs fm G2 O2 H2 → RT r v G2 O2 → (Rt r).wp Q fm.xw → D.rt v H2)
    (hb : ∀ x s σ' G1 G' O' H' vs (D' : Ends) (Qb : Tn S Sr → Prop), Same G G' → W s σ' G1 O' → Same G1 G' → Hs fm G' O' H' → Ss.r K G' vs x → ZEnds fm G' W RT Qb D' → Wp (f x s) Qb fm.xw → tw D' (setL σ' is vs) H')
    (hn : ∀ s σ' G1 G' O' H', Same G G' → W s σ' G1 O' → Same G1 G' → Hs fm G' O' H' → Wp (N s) Q fm.xw → tr D σ' H') : tSeq (tFor ti g tw) tr D σ H :=
  s_forBZ W RT hi hO tg hs hm.out h0 (fun x s σ' G1 G' O' H' vs D' Qb a b c d e f g => hb x s σ' G1 G' O' H' vs D' Qb a b c d e f (.mk g)) (fun s σ' G1 G' O' H' a b c d e => hn s σ' G1 G' O' H' a b c d (.mk e)) hr
theorem w_whBZ {S : Type} {Sr : Type} {c : TT} {mc : S → Res Bool} {f : S → Res (Tn S Sr)} {N : S → Res ρ} {Rt : Sr → Res ρ} {s0 : S} {fuel : Nat} (W : S → L2.St → Hp → Own → Prop) (RT : Sr → V → Hp → Own → Prop)
    (hs : Hs fm G O H) (hm : Wp ((whB mc f fuel s0).bind (Lp.el N Rt)) Q fm.xw) (h0 : W s0 σ G O)
    (hr : ∀ r v G2 O2 H2, Hs fm G2 O2 H2 → RT r v G2 O2 → (Rt r).wp Q fm.xw → D.rt v H2)
    (hc : ∀ s σ' G1 G' O', Same G G' → W s σ' G1 O' → Same G1 G' → EvT fm c σ' G' O' (mc s))
    (hb : ∀ s σ' G1 G' O' H' (D' : Ends) (Qb : Tn S Sr → Prop), Same G G' → W s σ' G1 O' → Same G1 G' → Hs fm G' O' H' → ZEnds fm G' W RT Qb D' → Wp (f s) Qb fm.xw → tw D' σ' H')
    (hn : ∀ s σ' G1 G' O' H', Same G G' → W s σ' G1 O' → Same G1 G' → Hs fm G' O' H' → Wp (N s) Q fm.xw → tr D σ' H') : tSeq (tWhile c tw) tr D σ H :=
  s_whBZ W RT hs hm.out h0 hc (fun s σ' G1 G' O' H' D' Qb a b c d e f => hb s σ' G1 G' O' H' D' Qb a b c d e (.mk f)) (fun s σ' G1 G' O' H' a b c d e => hn s σ' G1 G' O' H' a b c d (.mk e)) hr
end
end Mw

namespace Mw
open PySem PySem.Spec PyProof.Rows L2
section
variable {α β γ δ ρ : Type} {K : PySem.W.Frag} {fm : Fm} {σ : L2.St} {G G' H H' : Hp} {O : Own} {te tb : TE} {R : Rp α} {m : Res α} {D : Ends} {tr : TS} {Q : ρ → Prop}
/-! ### fields written -/
theorem w_fldV (j : Nat) {p C dx : Addr} {fs : List (Str × V)} {f : Str} {mk : α → Res ρ} (hx : EvV fm tb σ G O (.ref p)) (hj : O[j]? = some (p, .ins C dx fs)) (c : Cls K C) (na : NoAttr K C f) (hn : fs.length < 1000) (he : EvE K fm te σ G O R m) (hs : Hs fm G O H) (hm : Wp (m.bind mk) Q fm.xw)
    (k : ∀ x v G' H', Same G G' → Hs fm G' (O.set j (p, .ins C dx (putF f v fs))) H' → R.r K G' v x → Wp (mk x) Q fm.xw → tr D σ H') : tSeq (sFld K tb te f) tr D σ H :=
  he G H (Same.refl _) hs.kn _ (Res.wp_mono (Res.wp_bind hm.out) (fun x q v G2 H2 s r => hx G2 H2 s.gg (hs.stp s).kn _ ⟨p, C, dx, fs, rfl, ((hs.stp s).at j hj).1, c, na, hn, k x v G2 _ s.gg ((hs.stp s).set j hj) r (.mk q)⟩) fun _ _ z => z)
theorem w_fldN (j : Nat) {p C dx : Addr} {fs : List (Str × V)} {f : Str} {m : Res (List α)} {mk : List α → Res ρ} (hx : EvV fm tb σ G O (.ref p)) (hj : O[j]? = some (p, .ins C dx fs)) (c : Cls K C) (na : NoAttr K C f) (hn : fs.length < 1000) (he : EvN K fm te σ G O R m) (hs : Hs fm G O H) (hm : Wp (m.bind mk) Q fm.xw)
    (k : ∀ xs l vs G' H', Same G G' → Hs fm G' ((l, .lst vs) :: O.set j (p, .ins C dx (putF f (.ref l) fs))) H' → RLs R K G' vs xs → Wp (mk xs) Q fm.xw → tr D σ H') : tSeq (sFld K tb te f) tr D σ H :=
  he G H (Same.refl _) hs.kn _ (Res.wp_mono (Res.wp_bind hm.out) (fun xs q l vs G2 H2 s hp gp hl r => hx G2 H2 s.gg (hs.stp s).kn _ ⟨p, C, dx, fs, rfl, ((hs.stp s).at j hj).1, c, na, hn, k xs l vs G2 _ s.gg ((hs.new s hp gp hl).set (j + 1) (a := p) (o := .ins C dx fs) (by rw [List.getElem?_cons_succ]; exact hj)) r (.mk q)⟩) fun _ _ z => z)
theorem w_fldT (j : Nat) {p C dx : Addr} {fs : List (Str × V)} {f : Str} {mm : Res ρ} (hx : EvV fm tb σ G O (.ref p)) (hj : O[j]? = some (p, .ins C dx fs)) (c : Cls K C) (na : NoAttr K C f) (hn : fs.length < 1000) (hs : Hs fm G O H) (hm : Wp mm Q fm.xw)
    (k : ∀ l H', Hs fm G ((l, .dT []) :: O.set j (p, .ins C dx (putF f (.ref l) fs))) H' → Wp mm Q fm.xw → tr D σ H') : tSeq (sFld K tb tDNewT f) tr D σ H := fun l hl =>
  have s : Stp G H G (upd H l (.dT [])) := Stp.grow hs.gh (same_new hl)
  hx G _ (Same.refl _) (hs.stp s).kn _ ⟨p, C, dx, fs, rfl, ((hs.stp s).at j hj).1, c, na, hn, k l _ ((hs.new s hl (same_back hs.gh hl) upd_same).set (j + 1) (a := p) (o := .ins C dx fs) (by rw [List.getElem?_cons_succ]; exact hj)) hm⟩
/-! ### objects made -/
theorem a_nil : EvA K fm tNil σ G O rs0 (.ok ()) := fun G1 H1 e k Q q => q [] G1 H1 (Stp.refl k.gh) rfl
/-- what an `__init__` promises -/
def spI {α δ : Type} (K : PySem.W.Frag) (cl : Nat → Addr) (C : Addr) (Ob : δ → V → Hp → Own → Prop) (S : Rps α) (f : α → Res δ) : Sp := fun vs H Q E => ∃ F G p dx rest a, vs = .ref p :: rest ∧ Hs ⟨F, G, E, cl⟩ G [(p, .ins C dx [])] H ∧ S.r K G rest a ∧
  Wp (f a) (fun d => ∀ G' O' H', Hs ⟨F, G, E, cl⟩ G' O' H' → Ob d (.ref p) G' O' → Q .non H') (Fm.xw ⟨F, G, E, cl⟩)
/-- x = C(..) -/
theorem w_mkZ {i : Nat} {C : Addr} {Ob : δ → V → Hp → Own → Prop} {S : Rps β} {t : TA} {f : β → Res δ} {m : Res β} {mk : δ → Res ρ} (he : EvA K fm t σ G O S m) (hs : Hs fm G O H) (hm : Wp ((m.bind f).bind mk) Q fm.xw)
    (k : ∀ d v G' O' H', Same G G' → Hs fm G' (O ++ (O' ++ [])) H' → Ob d v G' O' → Wp (mk d) Q fm.xw → tr D (σ.set i (some v)) H') : tSeq (tAsg (tMake C (spI K fm.cl C Ob S f) [] fm.E t) (gName i)) tr D σ H :=
  he G H (Same.refl _) hs.kn _ (Res.wp_mono (Res.wp_bind (Res.wp_bind hm.out)) (fun c q vs G2 H2 s r => by
    intro x dx hx hdx hne
    have hs2 := hs.stp s
    have s1 := Stp.new (o := HO.own x) s.gh hdx
    have hs3 := hs2.stp s1
    have hx3 : upd H2 dx (HO.own x) x = none := by rw [upd_ne (fun e => hne e.symm)]; exact hx
    have hs4 := hs3.new (p := x) (o := .ins C dx []) (Stp.grow hs3.gh (same_new hx3)) hx3 (same_back hs3.gh hx3) upd_same
    have hs5 : Hs fm (upd G2 dx (.own x)) ([] ++ ([(x, .ins C dx [])] ++ O)) _ := hs4
    refine ⟨_, _, x, dx, vs, c, by rw [List.append_nil], hs5.sub, S.mono s1.gg r, .mk (Res.wp_mono (m := f c) q (fun d q G' O' H' h ob => ⟨rfl, ?_⟩) fun c fs z => xw_sub hs5 z)⟩
    exact k d _ G' O' H' ((s.gg.trans s1.gg).trans h.g0) ((hs5.back2 h).perm (by rw [List.append_nil, List.nil_append]; exact List.perm_append_comm)) ob (.mk q)) fun _ _ z => z)
/-- an object handed on as it stands, to be read alone from here on -/
theorem lnV {α : Type} {v0 : V} {S : Rps α} {n : Nat} (h : Ln S n) : Ln (rsV v0 S) (n + 1) := fun K G vs a ⟨r, e, t⟩ => by rw [e, List.length_cons, h K G r a t]
theorem ln0 : Ln rs0 0 := fun K G vs a e => by rw [show vs = [] from e]; rfl
end
end Mw

namespace Mw
open PySem PySem.Spec PyProof.Rows L2
/-! ### zip of two sequences, each a list or a tuple (true: tuple) -/
def SqB (t : Bool) (K : PySem.W.Frag) (H : Hp) (a : Addr) (xs : List V) : Prop := match t with | true => SqT K H a xs | false => SqL K H a xs
def HsB (t : Bool) (h : Heap) (a : Addr) (its : Array Value) : Prop := match t with | true => h.IsTuple a its | false => h.IsList a its
def ItB (t : Bool) (h : Heap) (it a : Addr) (i : Nat) : Prop := match t with | true => h.IsTupleIter it a i | false => h.IsListIter it a i
def obB (t : Bool) (a : Addr) : Obj := match t with | true => { cls := .type "tuple_iterator", data := .fields #[.ref a, .int 0 0] } | false => { cls := .type "list_iterator", data := .fields #[.ref a, .int 0 0] }
theorem same_b {t : Bool} {K : PySem.W.Frag} {H H' : Hp} {a : Addr} {xs : List V} (e : Same H H') (h : SqB t K H a xs) : SqB t K H' a xs := by
  cases t
  · exact same_l e h
  · exact same_t e h
theorem invB {X : Cx} {pins : List (Addr × Obj)} {σ : L2.St} {H : Hp} {s : Shared} (I : Inv X pins σ H s) {t : Bool} {a : Addr} {xs : List V} (h : SqB t X.K H a xs) :
    ∃ its : List Value, Vals xs its ∧ HsB t s.heap a its.toArray ∧ a < s.heap.objs.size := by
  cases t
  · obtain ⟨its, rv, p, _⟩ := I.list h
    exact ⟨its, rv, p.isList, p.lt⟩
  · obtain ⟨its, rv, p, _⟩ := I.tuple h
    obtain ⟨o, ho, _⟩ := id p
    exact ⟨its, rv, p, Heap.lt_size ho⟩
theorem injB {X : Cx} {pins : List (Addr × Obj)} {σ : L2.St} {H : Hp} {s : Shared} (I : Inv X pins σ H s) {t : Bool} {a : Addr} {xs ys : List V} (h : SqB t X.K H a xs) (h' : SqB t X.K H a ys) : xs = ys := by
  cases t
  · exact I.list_inj h h'
  · exact I.tuple_inj h h'
theorem drawsB {prog : Program} {w : World} {A : Around} (hh : A.handled = none) (t : Bool) (it l : Addr) (hne : l ≠ it) (items : Array Value) :
    Draws prog w A it [it, l] items.size (fun i v => items[i]? = some v) (fun i h => ItB t h it l i ∧ HsB t h l items) := by
  cases t
  · exact Draws.list hh it l hne items
  · exact Draws.tuple hh it l hne items
theorem beginsB (t : Bool) (l : Addr) (items : Array Value) : Begins (.ref l) (obB t l) fun h => HsB t h l items := by
  cases t
  · exact begins_list l items
  · exact begins_tuple l items
theorem itB_obj {t : Bool} {h : Heap} {it a : Addr} {i : Nat} (x : ItB t h it a i) : ∃ o, h.get? it = some o ∧ ∀ v, o.data ≠ .cell v := by
  cases t <;> (obtain ⟨o, e, _, d⟩ := x; exact ⟨o, e, fun v q => by rw [d] at q; cases q⟩)
theorem itB_at {t : Bool} {h h' : Heap} {it a : Addr} {i : Nat} (x : ItB t h it a i) (k : ∀ o, h.get? it = some o → h'.get? it = some o) : ItB t h' it a i := by
  cases t
  · exact Heap.IsListIter.at x k
  · exact Heap.IsTupleIter.at x k
theorem itB_new {t : Bool} {h : Heap} {it a : Addr} (e : h.get? it = some (obB t a)) : ItB t h it a 0 := by
  cases t
  · exact ⟨_, e, rfl, rfl⟩
  · exact ⟨_, e, rfl, rfl⟩
def ItzB (s t : Bool) (K : PySem.W.Frag) (a b : Addr) : It :=
  ⟨fun i H => ∃ (xs ys : List V) (x y : V), SqB s K H a xs ∧ SqB t K H b ys ∧ xs[i]? = some x ∧ ys[i]? = some y,
    fun i H v H' => ∃ T x y, v = .ref T ∧ H T = none ∧ H' = upd H T (.tup [x, y]) ∧ (∀ xs, SqB s K H a xs → xs[i]? = some x) ∧ ∀ ys, SqB t K H b ys → ys[i]? = some y,
    fun i H => ∃ xs ys : List V, SqB s K H a xs ∧ SqB t K H b ys ∧ i ≤ xs.length ∧ i ≤ ys.length ∧ (i = xs.length ∨ i = ys.length)⟩
theorem turn_zipB {P : Program} {w : World} {K : PySem.W.Frag} {elts : List Expr} {kk : Nat} {tpos : Pos} {u t : Bool} {a b z TI TO i1 i2 : Addr} (D : ZipApart z TI TO i1 i2 a b) (S : ZipSep2 z TI TO i1 i2 [i1, a] [i2, b]) (ha : a ≠ i1) (hb : b ≠ i2) :
    Turn P w K (.Tuple elts kk tpos) (ItzB u t K a b) [z, TI, TO, i1, i2] z (fun i h => IsZip h z TI TO .none ∧ IsTupOf2 h TI (.ref i1) (.ref i2) ∧ (∃ x y, IsTupOf2 h TO x y) ∧ ItB u h i1 a i ∧ ItB t h i2 b i) where
  mem := by simp
  obj := fun i h st c hc => by
    obtain ⟨hz, hTI, ⟨x, y, hTO⟩, h1, h2⟩ := st
    have e' : c = z ∨ c = TI ∨ c = TO ∨ c = i1 ∨ c = i2 := by simpa using hc
    rcases e' with q | q | q | q | q
    · rw [q]; exact ⟨_, hz, fun v q => nomatch q⟩
    · rw [q]; exact ⟨_, hTI, fun v q => nomatch q⟩
    · rw [q]; exact ⟨_, hTO, fun v q => nomatch q⟩
    · rw [q]; exact itB_obj h1
    · rw [q]; exact itB_obj h2
  keep := fun i h h' st k => by
    obtain ⟨hz, hTI, ⟨x, y, hTO⟩, h1, h2⟩ := st
    exact ⟨k z (by simp) _ hz, k TI (by simp) _ hTI, ⟨x, y, k TO (by simp) _ hTO⟩, itB_at h1 fun o q => k i1 (by simp) o q, itB_at h2 fun o q => k i2 (by simp) o q⟩
  item := by
    intro X hP hw hK hc i pins s σ H E I hf st hg
    subst hP hw hK
    obtain ⟨hz, hTI, ⟨x0, y0, hTO⟩, h1, h2⟩ := st
    obtain ⟨xs, ys, x, y, hqx, hqy, hx, hy⟩ := hg
    obtain ⟨its, rv, p, _⟩ := invB I hqx
    obtain ⟨its2, rv2, p2, _⟩ := invB I hqy
    obtain ⟨c, hu, ru⟩ := rv.get hx
    obtain ⟨c2, hu2, ru2⟩ := rv2.get hy
    have hl1 : i < its.toArray.size := by simpa using (List.getElem?_eq_some_iff.mp hu).1
    have hl2 : i < its2.toArray.size := by simpa using (List.getElem?_eq_some_iff.mp hu2).1
    have hzl : z < s.heap.objs.size := Heap.lt_size hz
    refine wpAny_pyNext_zipD2_item S (drawsB (prog := X.prog) (w := X.w) (A := X.A.in1) (show X.A.in1.handled = none from I.ok.hd hc) u i1 a ha its.toArray) (drawsB (show X.A.in1.handled = none from I.ok.hd hc) t i2 b hb its2.toArray) hz hTI hTO ⟨h1, p⟩ ⟨h2, p2⟩ hl1 hl2 fun x1 x2 h' tk hp1 hp2 z' TO' s1' s2' hT hsz hk => ?_
    have e1 : x1 = c := by
      have : its.toArray[i]? = some c := by simpa using hu
      rw [this] at hp1
      exact (Option.some.inj hp1).symm
    have e2 : x2 = c2 := by
      have : its2.toArray[i]? = some c2 := by simpa using hu2
      rw [this] at hp2
      exact (Option.some.inj hp2).symm
    subst e1 e2
    refine ⟨_, rfl, wpAny_letOwnedTupleGo_zip (s := { s with heap := h', toks := tk }) z' fun h'' z'' sb => ?_⟩
    have hT2 : h''.get? s.heap.objs.size = some { cls := .type "tuple", data := .seq #[x1, x2] } := (sb.2 _ (Nat.ne_of_gt hzl)).trans hT
    have new : ObjOk X.prog X.w (upd H s.heap.objs.size (.tup [x, y])) h'' s.heap.objs.size (.tup [x, y]) :=
      ⟨by show 2 ≤ sizeLine; decide, [x1, x2], .cons ru (.cons ru2 .nil), ⟨_, hT2, rfl, _, rfl⟩⟩
    have I1 : Inv X pins σ (upd H s.heap.objs.size (.tup [x, y])) { s with heap := h'', toks := tk } :=
      I.turnedNew (t' := tk) (ch := [z, TI, TO, i1, i2]) (fun c o hb q => (sb.2 c (fun q' => hb (by simp [q']))).trans (hk c o (fun q' => hb (by simp [q'])) (fun q' => hb (by simp [q'])) (fun q' => hb (by simp [q'])) (fun q' => hb (by simp [q'])) q)) hf (Nat.le_refl _) new
    refine ⟨.ref s.heap.objs.size, _, I1, rfl, ⟨_, x, y, rfl, I.hok.fresh (Nat.le_refl _), rfl, fun l hl => by rw [injB I hl hqx]; exact hx, fun l hl => by rw [injB I hl hqy]; exact hy⟩, ⟨z'', ?_, ⟨x1, x2, ?_⟩, ?_, ?_⟩, fun c hcm => ?_⟩
    · exact (sb.2 _ D.TIz).trans (hk _ _ D.TIz D.TITO D.TIi1 D.TIi2 hTI)
    · exact (sb.2 _ D.TOz).trans TO'
    · exact itB_at s1'.1 fun o q => (sb.2 _ D.i1z).trans q
    · exact itB_at s2'.1 fun o q => (sb.2 _ D.i2z).trans q
    · have hlt : c < s.heap.objs.size := by
        have e' : c = z ∨ c = TI ∨ c = TO ∨ c = i1 ∨ c = i2 := by simpa using hcm
        rcases e' with q | q | q | q | q
        · rw [q]; exact hzl
        · rw [q]; exact Heap.lt_size hTI
        · rw [q]; exact Heap.lt_size hTO
        · rw [q]; obtain ⟨_, e1, _⟩ := itB_obj h1; exact Heap.lt_size e1
        · rw [q]; obtain ⟨_, e2, _⟩ := itB_obj h2; exact Heap.lt_size e2
      rw [upd_ne (Nat.ne_of_lt hlt)]
      exact (hf c hcm).1
  done := by
    intro X hP hw hK hc i pins s σ H E I hf st hg
    subst hP hw hK
    obtain ⟨hz, hTI, ⟨x0, y0, hTO⟩, h1, h2⟩ := st
    obtain ⟨xs, ys, hqx, hqy, hle1, hle2, hend⟩ := hg
    obtain ⟨its, rv, p, _⟩ := invB I hqx
    obtain ⟨its2, rv2, p2, _⟩ := invB I hqy
    have l1 : xs.length = its.length := rv.length
    have l2 : ys.length = its2.length := rv2.length
    exact wpAny_pyNext_zipD2_end S (drawsB (prog := X.prog) (w := X.w) (A := X.A.in1) (show X.A.in1.handled = none from I.ok.hd hc) u i1 a ha its.toArray) (drawsB (show X.A.in1.handled = none from I.ok.hd hc) t i2 b hb its2.toArray) hz hTI hTO ⟨h1, p⟩ ⟨h2, p2⟩ (by simpa [← l1] using hle1) (by simpa [← l2] using hle2) (by simpa [← l1, ← l2] using hend) fun h' tk hk => ⟨rfl, I.turnedL (t' := tk) (ch := [z, TI, TO, i1, i2]) (fun c o hb q =>
      hk c o (fun q' => hb (by simp [q'])) (fun q' => hb (by simp [q'])) (fun q' => hb (by simp [q'])) (fun q' => hb (by simp [q'])) q) hf⟩
  self := fun A i s Q E st h => wpAny_pyIter_zip st.1 h
def iZipB (s t : Bool) (K : PySem.W.Frag) (ta : TA) : TI := fun σ H R => ta σ H fun vs H1 => ∃ a b xs ys, vs = [.ref a, .ref b] ∧ SqB s K H1 a xs ∧ SqB t K H1 b ys ∧ R (ItzB s t K a b) H1
theorem pi_zipB (u t : Bool) {X : Cx} {e e2 : Expr} {ta : TA} {p pos tpos : Pos} {elts : List Expr} {kk : Nat} (hg : Gl X "zip") (hm : X.mg "zip" = none) (ha : PA X [e, e2] ta)
    (hs : starEach [e, e2] X.env = (false, eval e X.env) :: starEach [e2] X.env := by rfl) (hpl : (backTo pos (starEach [e2] X.env)).any (·.1) = false := by rfl) :
    PI X (.Tuple elts kk tpos) (.Call (.Name "zip" p) [e, e2] [] pos) (iZipB u t X.K ta) := by
  refine ⟨fun pins s σ H R I h => ?_⟩
  refine Call_ (ld_blt I hg hm PyProof.Rows.boot_zip (PyProof.Rows.callWith_type1 (thn (ha.run pos pins s σ H _ I h) fun us s1 ⟨vs, H1, I1, r1, q1⟩ => ?_) hs hpl))
  obtain ⟨a, b, xs, ys, ex, hqx, hqy, q⟩ := q1
  subst ex
  cases r1 with
  | cons r rr =>
    cases rr with
    | cons r' rr =>
      cases rr
      cases r
      cases r'
      have fresh5 : ∀ c, c ∈ [s1.heap.objs.size + 4, s1.heap.objs.size + 2, s1.heap.objs.size + 3, s1.heap.objs.size, s1.heap.objs.size + 1] → FpOk X pins H1 c := fun c hcm => by
        have e' : c = s1.heap.objs.size + 4 ∨ c = s1.heap.objs.size + 2 ∨ c = s1.heap.objs.size + 3 ∨ c = s1.heap.objs.size ∨ c = s1.heap.objs.size + 1 := by simpa using hcm
        have hle : s1.heap.objs.size ≤ c := by
          rcases e' with z | z | z | z | z
          · rw [z]; exact Nat.le_add_right _ _
          · rw [z]; exact Nat.le_add_right _ _
          · rw [z]; exact Nat.le_add_right _ _
          · rw [z]; exact Nat.le_refl _
          · rw [z]; exact Nat.le_add_right _ _
        exact I1.fpOk hle (I1.hok.fresh hle)
      obtain ⟨its, rv, p1, lt1⟩ := invB I1 hqx
      obtain ⟨its2, rv2, p2, lt2⟩ := invB I1 hqy
      refine zip_begins2 (beginsB u a its.toArray) (beginsB t b its2.toArray) p1 p2 fun h' hz hTI hTO h1 h2 hsz hk => wpAny_pyIter_zip hz ?_
      have I2 : Inv X pins σ H1 { s1 with heap := h' } := I1.kept (t' := s1.toks) hk
      have S := zip_sep2 (N := s1.heap.objs.size) (fp1 := [a]) (fp2 := [b]) (fun c hc => by rw [List.mem_singleton.mp hc]; exact lt1) (fun c hc => by rw [List.mem_singleton.mp hc]; exact lt2)
      refine ⟨s1.heap.objs.size + 4, [s1.heap.objs.size + 4, s1.heap.objs.size + 2, s1.heap.objs.size + 3, s1.heap.objs.size, s1.heap.objs.size + 1], _, _, H1, rfl, I2, turn_zipB (PySem.W.ktu_apart s1.heap.objs.size a b lt1 lt2) S (Nat.ne_of_lt lt1) (Nat.ne_of_lt (Nat.lt_succ_of_lt lt2)), ⟨hz, hTI, ⟨_, _, hTO⟩, itB_new h1, itB_new h2⟩, fresh5, q⟩
def zipL {α β : Type} (xs : List α) (ys : List β) : List (α × β) := xs.zip ys
def zipM {α β : Type} (a : Res (List α)) (b : Res (List β)) : Res (List (α × β)) := a.bind fun x => b.bind fun y => .ok (zipL x y)
@[simp] theorem zipM_ok {α β : Type} (x : List α) (y : List β) : zipM (.ok x) (.ok y) = .ok (zipL x y) := rfl
section
variable {α β : Type} {K : PySem.W.Frag} {fm : Fm} {σ : L2.St} {G : Hp} {O : Own} {ta tb : TE} {R : Rp α} {S : Rp β}
theorem itzB_ok {s t : Bool} {a b : Addr} {vs ws : List V} {xs : List α} {ys : List β} (h : SqB s K G a vs) (h' : SqB t K G b ws) (r : RLs R K G vs xs) (r' : RLs S K G ws ys) : ItOk K G [] (rP2 R S) (ItzB s t K a b) (zipL xs ys) where
  go := fun i G1 H e e' _ hi => by
    have hi : i < min xs.length ys.length := by simpa [zipL] using hi
    obtain ⟨x, hx⟩ := paired_lt r (show i < xs.length by omega)
    obtain ⟨y, hy⟩ := paired_lt r' (show i < ys.length by omega)
    exact ⟨vs, ws, x, y, same_b (e.trans e') h, same_b (e.trans e') h', hx, hy⟩
  stop := fun G1 H e e' _ => by
    have hl : (zipL xs ys).length = min xs.length ys.length := by simp [zipL]
    have l1 := Paired.length r
    have l2 := Paired.length r'
    rw [hl]
    exact ⟨vs, ws, same_b (e.trans e') h, same_b (e.trans e') h', by omega, by omega, by omega⟩
  yld := fun i G1 H v H' e e' _ hi y => by
    obtain ⟨T, x, y, ev, hT, eH, f1, f2⟩ := y
    subst ev eH
    obtain ⟨x', hx, rx⟩ := paired_get r (f1 vs (same_b (e.trans e') h))
    obtain ⟨y', hy, ry⟩ := paired_get r' (f2 ws (same_b (e.trans e') h'))
    have hz : (zipL xs ys)[i]? = some (x', y') := by
      unfold zipL
      rw [List.getElem?_zip_eq_some]
      exact ⟨hx, hy⟩
    refine ⟨(x', y'), _, hz, Stp.new e' hT, T, _, rfl, .inl (.inl upd_same), x, _, rfl, ?_, y, rfl, ?_⟩
    · exact R.mono (e.trans (same_new (same_back e' hT))) rx
    · exact S.mono (e.trans (same_new (same_back e' hT))) ry
/-- a value that is a sequence of that kind -/
def Sk (t : Bool) (K : PySem.W.Frag) (C : Rp (List α)) (R : Rp α) : Prop := ∀ G v xs, C.r K G v xs → ∃ p vs, v = .ref p ∧ SqB t K G p vs ∧ RLs R K G vs xs
theorem sk_T : Sk true K (rT R) R := fun G v xs ⟨p, vs, a, b, c⟩ => ⟨p, vs, a, b, c⟩
theorem sk_L : Sk false K (rL R) R := fun G v xs ⟨p, vs, a, b, c⟩ => ⟨p, vs, a, b, c⟩
theorem sk_K : Sk false K (rK R) R := fun G v xs h => sk_L _ _ _ (rK_rL h)
theorem i_zipB {s t : Bool} {C : Rp (List α)} {C' : Rp (List β)} {m : Res (List α)} {n : Res (List β)} (c : Sk s K C R) (c' : Sk t K C' S) (ha : EvE K fm ta σ G O C m) (hb : EvE K fm tb σ G O C' n) : EvI K fm (iZipB s t K (tCons ta (tCons tb tNil))) σ G O [] (rP2 R S) (zipM m n) := fun G1 H1 e k Q q =>
  ha G1 H1 e k _ (Res.wp_mono (Res.wp_bind q) (fun xs q v G2 H2 s2 r => hb G2 H2 (e.trans s2.gg) (k.stp s2) _ (Res.wp_mono (Res.wp_bind q) (fun ys q w G3 H3 s3 r' => by
    obtain ⟨p, vs, ev, hq, rs⟩ := c _ _ _ (C.mono s3.gg r)
    obtain ⟨p', ws, ew, hq', rs'⟩ := c' _ _ _ r'
    subst ev ew
    exact ⟨p, p', vs, ws, rfl, same_b s3.gh hq, same_b s3.gh hq', q _ G3 H3 (s2.trans s3) (itzB_ok hq hq' rs rs')⟩) fun _ _ z => z)) fun _ _ z => z)
end
end Mw

namespace Mw
open PySem PySem.Spec PyProof.Rows L2
section
variable {α β γ δ ρ : Type} {K : PySem.W.Frag} {fm : Fm} {σ : L2.St} {G G' H H' : Hp} {O : Own} {te ta tb : TE} {R : Rp α} {m : Res α} {D : Ends} {tr : TS} {Q : ρ → Prop}
/-! ### xs[::-1] -/
def revM {α : Type} (m : Res (List α)) : Res (List α) := m.bind fun xs => .ok xs.reverse
@[simp] theorem revM_ok {α : Type} (xs : List α) : revM (.ok xs) = .ok xs.reverse := rfl
theorem n_rev {m : Res (List α)} (h : EvE K fm te σ G O (rL R) m) : EvN K fm (tRevL K te) σ G O R (revM m) := fun G1 H1 e k Q q =>
  h G1 H1 e k _ (Res.wp_mono (Res.wp_bind q) (fun xs q v G2 H2 s ⟨p, vs, ev, hq, r⟩ =>
    ⟨p, vs, ev, same_l s.gh hq, fun p' hp => q p' _ G2 _ (s.trans (Stp.grow s.gh (same_new hp))) (same_back s.hh hp) (same_back s.gh hp) upd_same (paired_rev r)⟩) fun _ _ z => z)
/-! ### t[lo:hi], t + u of tuples -/
theorem e_sliceT {tl th : TO} {m : Res (List α)} {lo hi : Res (Option Int)} (h : EvE K fm te σ G O (rT R) m) (h1 : EvO fm tl σ G O lo) (h2 : EvO fm th σ G O hi) : EvE K fm (tSl (rSlA K) te tl th) σ G O (rT R) (sliceM m lo hi) := fun G1 H1 e k Q q =>
  h G1 H1 e k _ (Res.wp_mono (Res.wp_bind q) (fun xs q v G2 H2 s r =>
    h1 G2 H2 (e.trans s.gg) (k.stp s) _ (Res.wp_mono (Res.wp_bind q) (fun l q G3 H3 s' =>
      h2 G3 H3 ((e.trans s.gg).trans s'.gg) ((k.stp s).stp s') _ (Res.wp_mono (Res.wp_bind q) (fun hh q G4 H4 s'' => by
        obtain ⟨p, vs, ev, hq, rs⟩ := r
        have ss := (s.trans s').trans s''
        have rs' := rs.mono (s'.gg.trans s''.gg)
        have hq' := same_t (s'.gg.trans s''.gg) hq
        refine ⟨p, vs, ev, same_t ss.gh hq', fun hw => q _ G4 H4 ss ⟨p, _, rfl, hq', ?_⟩, fun _ p' hp => q _ _ _ (ss.trans (Stp.new ss.gh hp)) ⟨p', _, rfl, .inl (.inl upd_same), RLs.mono (same_new (same_back ss.gh hp)) (paired_cut rs' _ _)⟩⟩
        have el : cutL xs l hh = xs := by
          unfold cutL
          rw [← Paired.length rs, hw.1, hw.2, List.drop_zero, Nat.sub_zero, Paired.length rs, List.take_length]
        rw [el]
        exact rs') fun _ _ z => z)) fun _ _ z => z)) fun _ _ z => z)
theorem e_catT {m n : Res (List α)} (ha : EvE K fm ta σ G O (rT R) m) (hb : EvE K fm tb σ G O (rT R) n) : EvE K fm (tOp (rCatA K) ta tb) σ G O (rT R) (catM m n) := fun G1 H1 e k Q q =>
  ha G1 H1 e k _ (Res.wp_mono (Res.wp_bind q) (fun x q u G2 H2 s ru =>
    hb G2 H2 (e.trans s.gg) (k.stp s) _ (Res.wp_mono (Res.wp_bind q) (fun y q v G3 H3 s' rv => by
      obtain ⟨p, vs, e1, h1, r1⟩ := ru
      obtain ⟨p', vs', e2, h2, r2⟩ := rv
      by_cases hl : x.length + y.length ≤ lim
      · rw [catF, if_pos hl] at q
        have ss := s.trans s'
        have h1' := same_t s'.gg h1
        have r1' := r1.mono s'.gg
        refine ⟨p, p', vs, vs', e1, e2, same_t ss.gh h1', same_t s'.gh h2, by rw [Paired.length r1, Paired.length r2, ← lim_eq]; exact hl, fun hx => ?_, fun _ hy => ?_, fun _ _ l hl => ?_⟩
        · subst hx
          cases r1
          exact q _ G3 H3 ss ⟨p', vs', rfl, h2, r2⟩
        · subst hy
          cases r2
          rw [List.append_nil] at q
          exact q _ G3 H3 ss ⟨p, vs, rfl, h1', r1'⟩
        · exact q _ _ _ (ss.trans (Stp.new ss.gh hl)) ⟨l, _, rfl, .inl (.inl upd_same), RLs.mono (same_new (same_back ss.gh hl)) (paired_app r1' r2)⟩
      · rw [catF, if_neg hl] at q; exact q.elim) fun _ _ z => z)) fun _ _ z => z)
/-! ### xs.insert(i, e) -/
def insF {α : Type} (xs : List α) (i : Int) (y : α) : Res (List α) := if xs.length < lim ∧ 0 ≤ i ∧ i < 2 ^ 62 then .ok (xs.take i.toNat ++ [y] ++ xs.drop i.toNat) else .stuck
def insM {α ρ : Type} (xs : List α) (n : Res Int) (m : Res α) (mk : List α → Res ρ) : Res ρ := n.bind fun i => m.bind fun y => (insF xs i y).bind mk
abbrev rInsert : V → List V → Hp → VK → Prop := fun x vs H Q => ∃ (l : Addr) (xs : List V) (i : Int) (y : V), x = .ref l ∧ vs = [.int i, y] ∧ H l = some (.lst xs) ∧ xs.length < sizeLine ∧ 0 ≤ i ∧ i < 2 ^ 63 ∧ Q .non (upd H l (.lst (xs.take i.toNat ++ [y] ++ xs.drop i.toNat)))
theorem w_ins {i : Nat} (j : Nat) {l : Addr} {vs : List V} {xs : List α} {m : Res α} {n : Res Int} {mk : List α → Res ρ} (hx : σ[i]? = some (some (.ref l))) (hj : O[j]? = some (l, .lst vs)) (hr : RLs R K G vs xs) (hi : EvE K fm ta σ G O zI n) (he : EvE K fm te σ G O R m) (hs : Hs fm G O H)
    (hm : Wp (insM xs n m mk) Q fm.xw)
    (k : ∀ ys ws G' H', Same G G' → Hs fm G' (O.set j (l, .lst ws)) H' → RLs R K G' ws ys → Wp (mk ys) Q fm.xw → tr D σ H') : tSeq (tDrop (tBM K "list" rInsert (tVar i) (tCons ta (tCons te tNil)))) tr D σ H :=
  ⟨_, hx, .inl ⟨rfl, vs, SqL.of (hs.at j hj).1⟩, hi G H (Same.refl _) hs.kn _ (Res.wp_mono (Res.wp_bind hm.out) (fun z q v G2 H2 s r => he G2 H2 s.gg (hs.stp s).kn _ (Res.wp_mono (Res.wp_bind q) (fun y q v' G3 H3 s' r' => by
    have ss := s.trans s'
    cases (show v = .int z from r)
    by_cases hl : xs.length < lim ∧ 0 ≤ z ∧ z < 2 ^ 62
    · rw [insF, if_pos hl] at q
      refine ⟨l, vs, z, v', rfl, rfl, ss.hh _ _ (hs.at j hj).1, by rw [Paired.length hr, ← lim_eq]; exact hl.1, hl.2.1, Int.lt_trans hl.2.2 (by decide), ?_⟩
      have hr' := hr.mono ss.gg
      exact k _ _ G3 _ ss.gg ((hs.stp ss).set j hj) (paired_app (paired_app (paired_take _ hr') (.cons r' .nil)) (paired_drop _ hr')) (.mk q)
    · rw [insF, if_neg hl] at q; exact q.elim) fun _ _ z => z)) fun _ _ z => z)⟩
/-! ### list(range(..)) -/
def rgOk (a b : Int) : Bool := inR a && inR b && decide ((b - a).toNat ≤ lim)
def lrg1M (a : Res Int) : Res (List Int) := a.bind fun j => if rgOk 0 j = true then .ok (rgL 0 j.toNat) else .stuck
def lrg2M (a b : Res Int) : Res (List Int) := a.bind fun i => b.bind fun j => if rgOk i j = true then .ok (rgL i (j - i).toNat) else .stuck
theorem paired_rg (i : Int) (n : Nat) : RLs zI K G ((List.range n).map fun k => V.int (i + (k : Nat))) (rgL i n) := by
  unfold rgL
  have : (List.range n).map (fun k => V.int (i + (k : Nat))) = ((List.range n).map fun k => i + ((k : Nat) : Int)).map V.int := by rw [List.map_map]; rfl
  rw [this]
  exact paired_map V.int (fun _ => rfl) _
theorem rgOk_ok {a b : Int} (h : rgOk a b = true) : RgOk a b := by
  simp only [rgOk, inR, Bool.and_eq_true, decide_eq_true_eq] at h
  obtain ⟨⟨⟨h1, h2⟩, h3, h4⟩, h5⟩ := h
  exact ⟨h1, h2, h3, h4, by rw [lim] at h5; omega⟩
theorem n_lrg1 {a : Res Int} (h : EvE K fm te σ G O zI a) : EvN K fm (tLstRg (tRg1 te)) σ G O zI (lrg1M a) := fun G1 H1 e k Q q =>
  h G1 H1 e k _ (Res.wp_mono (Res.wp_bind q) (fun j q v G2 H2 s r => by
    cases (show v = .int j from r)
    cases hj : rgOk 0 j with
    | false => rw [hj] at q; exact q.elim
    | true =>
      rw [hj, if_pos rfl] at q
      refine ⟨j, rfl, rgOk_ok hj, fun p hp => q p _ G2 _ (s.trans (Stp.grow s.gh (same_new hp))) (same_back s.hh hp) (same_back s.gh hp) upd_same ?_⟩
      have := paired_rg (K := K) (G := G2) 0 (j - 0).toNat
      rw [Int.sub_zero] at this
      unfold rgV
      rw [Int.sub_zero]
      exact this) fun _ _ z => z)
theorem n_lrg2 {a b : Res Int} (h : EvE K fm ta σ G O zI a) (h' : EvE K fm tb σ G O zI b) : EvN K fm (tLstRg (tRg2 ta tb)) σ G O zI (lrg2M a b) := fun G1 H1 e k Q q =>
  h G1 H1 e k _ (Res.wp_mono (Res.wp_bind q) (fun i q v G2 H2 s r => h' G2 H2 (e.trans s.gg) (k.stp s) _ (Res.wp_mono (Res.wp_bind q) (fun j q w G3 H3 s' r' => by
    cases (show v = .int i from r)
    cases (show w = .int j from r')
    cases hj : rgOk i j with
    | false => rw [hj] at q; exact q.elim
    | true =>
      rw [hj, if_pos rfl] at q
      have ss := s.trans s'
      exact ⟨i, j, rfl, rfl, rgOk_ok hj, fun p hp => q p _ G3 _ (ss.trans (Stp.grow ss.gh (same_new hp))) (same_back ss.hh hp) (same_back ss.gh hp) upd_same (paired_rg i _)⟩) fun _ _ z => z)) fun _ _ z => z)
/-! ### readings that no list's cell bears -/
def KpL (G G' : Hp) : Prop := ∀ b o, G b = some o → (∀ vs, o ≠ .lst vs) → G' b = some o
def Nl {α : Type} (R : Rp α) : Prop := ∀ K G G' v x, KpL G G' → R.r K G v x → R.r K G' v x
def Nls {α : Type} (S : Rps α) : Prop := ∀ K G G' vs x, KpL G G' → S.r K G vs x → S.r K G' vs x
theorem nl_sc {R : Rp α} (h : Sc R) : Nl R := fun K G G' v x _ r => h _ _ _ _ _ r
theorem nl_I : Nl zI := nl_sc sc_I
theorem nl_B : Nl rB := nl_sc sc_B
theorem nl_N : Nl rN := nl_sc sc_N
theorem nl_S : Nl rS := nl_sc sc_S
theorem nl_O {R : Rp α} (h : Nl R) : Nl (rO R) := fun K G G' v o k q => by
  cases o with
  | none => exact q
  | some a => exact ⟨q.1, h K G G' v a k q.2⟩
theorem nl_sqT {G G' : Hp} {p : Addr} {vs : List V} (k : KpL G G') (h : SqT K G p vs) : SqT K G' p vs := by
  rcases h with (h | ⟨o, h⟩) | h
  · exact .inl (.inl (k _ _ h fun vs q => by cases q))
  · exact .inl (.inr ⟨o, k _ _ h fun vs q => by cases q⟩)
  · exact .inr h
theorem nl_T {R : Rp α} (h : Nl R) : Nl (rT R) := fun K G G' v x k ⟨p, vs, a, b, c⟩ => ⟨p, vs, a, nl_sqT k b, Paired.mapP c fun _ _ z => h _ _ _ _ _ k z⟩
theorem nl_P {S : Rps α} (h : Nls S) : Nl (rP S) := fun K G G' v x k ⟨p, vs, a, b, c⟩ => ⟨p, vs, a, nl_sqT k b, h _ _ _ _ _ k c⟩
theorem nls1 {R : Rp α} (h : Nl R) : Nls (rs1 R) := fun K G G' vs x k ⟨v, a, b⟩ => ⟨v, a, h _ _ _ _ _ k b⟩
theorem nlsC {R : Rp α} {S : Rps β} (h : Nl R) (h' : Nls S) : Nls (rsC R S) := fun K G G' vs x k ⟨v, r, a, b, c⟩ => ⟨v, r, a, h _ _ _ _ _ k b, h' _ _ _ _ _ k c⟩
/-! ### a list that a callee has made, as one's own -/
theorem n_callF {S : Rps β} {f : β → Res (List α)} {R : Rp α} {t : TA} {m : Res β} (sl : Nl R) (h : EvA K fm t σ G O S m) : EvN K fm (tCall (spPF K fm.cl S (fun F => rF F R) f) [] fm.E t) σ G O R (m.bind f) := fun G1 H1 e k Q q =>
  h G1 H1 e k _ (Res.wp_mono (Res.wp_bind q) (fun x q vs G2 H2 s r => ⟨G2, x, s.gh, by rw [List.append_nil]; exact r,
    .mk (Res.wp_mono q (fun y q v G3 H3 s' rv => by
      obtain ⟨p, ws, ev, hp, hg, rs⟩ := rv
      subst ev
      have h1 : H1 p = none := same_back s.hh hp
      refine q p ws (fun b => if b = p then none else G3 b) H3 ⟨s.hh.trans s'.hh, fun b o hb => ?_, fun b o hb => ?_, fun b o hb => ?_⟩ h1 (if_pos rfl) (s'.gh _ _ hg) (Paired.mapP rs fun _ _ z => sl _ _ _ _ _ (fun b o hb hn => by
        have hne : b ≠ p := fun q => by rw [q, hg] at hb; cases hb; exact hn _ rfl
        show (if b = p then none else G3 b) = _
        rw [if_neg hne]
        exact hb) z)
      · have hne : b ≠ p := fun q => by rw [q] at hb; rw [k.gh _ _ hb] at h1; cases h1
        show (if b = p then none else G3 b) = _
        rw [if_neg hne]
        exact s'.gg _ _ (s.gg _ _ hb)
      · by_cases hne : b = p
        · rw [if_pos hne] at hb; cases hb
        · rw [if_neg hne] at hb; exact s'.gh _ _ hb
      · have hne : b ≠ p := fun q => by rw [q] at hb; rw [hb] at h1; cases h1
        show (if b = p then none else G3 b) = _
        rw [if_neg hne]
        exact (s'.old _ _ (s.hh _ _ hb)).trans (s.old _ _ hb)) fun c fs z H' d a b => z H' d ((k.stp s).fr.trans a) b)⟩) fun _ _ z => z)
theorem _root_.Mw.EvN.evF {R : Rp α} {m : Res (List α)} (h : EvN K fm te σ G O R m) : EvE K fm te σ G O (rF fm.F R) m := fun G1 H1 a k Q q =>
  h G1 H1 a k Q (Res.wp_mono q (fun xs f p vs G2 H2 s hp gp hl r =>
    f (.ref p) (upd G2 p (.lst vs)) H2 ⟨s.hh, s.gg.trans (same_new gp), same_updG s.gh hl, fun b o e => by
        rw [upd_ne (ne_of_none e hp)]; exact s.old b o e⟩
      ⟨p, vs, rfl, same_back k.fr hp, upd_same, r.mono (same_new gp)⟩) fun _ _ x => x)
end
end Mw

namespace Mw
open PySem PySem.Spec PyProof.Rows L2
/-! ### expressions that write one object; an exception, too, leaves it in a known state -/
inductive Xr (α : Type) where
  | ok (a : α) | exc (c : Nat) (fs : List (Str × V))
abbrev Xs (α δ : Type) := Res (Xr α × δ)
/-- the exceptional way out -/
def bindK {α δ ρ : Type} (m : Xs α δ) (ex : Nat → List (Str × V) → δ → Res ρ) (k : α → δ → Res ρ) : Res ρ := match m with | .ok x => (match x.1 with | .ok a => k a x.2 | .exc c fs => ex c fs x.2) | _ => .stuck
def exX {α δ : Type} : Nat → List (Str × V) → δ → Xs α δ := fun c fs d => .ok (.exc c fs, d)
abbrev bindX {α β δ : Type} (m : Xs α δ) (k : α → δ → Xs β δ) : Xs β δ := bindK m exX k
theorem bindK_ok {α δ ρ : Type} (a : α) (d : δ) (ex : Nat → List (Str × V) → δ → Res ρ) (k : α → δ → Res ρ) : bindK (.ok (.ok a, d)) ex k = k a d := rfl
theorem bindK_exc {α δ ρ : Type} (c : Nat) (fs) (d : δ) (ex : Nat → List (Str × V) → δ → Res ρ) (k : α → δ → Res ρ) : bindK (.ok (.exc c fs, d)) ex k = ex c fs d := rfl
/-- what doesn't write: its exception leaves the state as it is -/
def pureX {α δ : Type} (m : δ → Res α) : δ → Xs α δ := fun d => match m d with | .ok x => .ok (.ok x, d) | .exc c fs => .ok (.exc c fs, d) | .stuck => .stuck
theorem pureX_ok {α δ : Type} {m : δ → Res α} {d : δ} {x : α} (h : m d = .ok x) : pureX m d = .ok (.ok x, d) := by unfold pureX; rw [h]
theorem pureX_exc {α δ : Type} {m : δ → Res α} {d : δ} {c fs} (h : m d = .exc c fs) : pureX m d = .ok (.exc c fs, d) := by unfold pureX; rw [h]
/-- what never raises -/
def liftX {α δ : Type} (m : Res (α × δ)) : Xs α δ := match m with | .ok x => .ok (.ok x.1, x.2) | _ => .stuck
theorem liftX_ok {α δ : Type} (a : α) (d : δ) : liftX (.ok (a, d)) = .ok (.ok a, d) := rfl
@[reducible] def pairX {α β δ : Type} (f : δ → Xs α δ) (g : δ → Xs β δ) : δ → Xs (α × β) δ := fun d => bindX (f d) fun x d => bindX (g d) fun y d => .ok (.ok (x, y), d)
@[reducible] def callX {α β δ : Type} (f : δ → Xs α δ) (h : δ → α → Xs β δ) : δ → Xs β δ := fun d => bindX (f d) fun x d => h d x
@[reducible] def mapX {α β δ : Type} (f : δ → Xs α δ) (h : α → Res β) : δ → Xs β δ := fun d => bindX (f d) fun x d => pureX (fun _ => h x) d
@[reducible] def map2X {α β γ δ : Type} (f : δ → Xs α δ) (g : δ → Xs β δ) (h : α → β → Res γ) : δ → Xs γ δ := fun d => bindX (f d) fun x d => bindX (g d) fun y d => pureX (fun _ => h x y) d
@[reducible] def readX {α β δ : Type} (f : δ → Xs α δ) (h : δ → α → Res β) : δ → Xs β δ := fun d => bindX (f d) fun x d => pureX (fun _ => h d x) d
@[reducible] def iteX {α δ : Type} (c : δ → Xs Bool δ) (a b : δ → Xs α δ) : δ → Xs α δ := fun d => bindX (c d) fun x d => if x = true then a d else b d
@[reducible] def andX {δ : Type} (c a : δ → Xs Bool δ) : δ → Xs Bool δ := fun d => bindX (c d) fun x d => if x = true then a d else .ok (.ok false, d)
@[reducible] def orX {δ : Type} (c a : δ → Xs Bool δ) : δ → Xs Bool δ := fun d => bindX (c d) fun x d => if x = true then .ok (.ok true, d) else a d
/-- the two ways out of what writes -/
def wpX {α δ : Type} (m : Xs α δ) (Q : α → δ → Prop) (E : Nat → List (Str × V) → δ → Prop) : Prop := m.wp (fun x => match x.1 with | .ok a => Q a x.2 | .exc c fs => E c fs x.2) fun _ _ => False
theorem wpX_bind {α β δ : Type} {m : Xs α δ} {k : α → δ → Xs β δ} {Q E} (h : wpX (bindX m k) Q E) : wpX m (fun a d => wpX (k a d) Q E) E := by
  unfold wpX bindX bindK at *
  cases m with
  | ok x =>
    obtain ⟨x, d⟩ := x
    cases x with
    | ok a => exact h
    | exc c fs => exact h
  | exc c fs => exact h.elim
  | stuck => exact h.elim
theorem wpX_mono {α δ : Type} {m : Xs α δ} {Q Q' : α → δ → Prop} {E E' : Nat → List (Str × V) → δ → Prop} (h : wpX m Q E) (hq : ∀ a d, Q a d → Q' a d) (he : ∀ c fs d, E c fs d → E' c fs d) : wpX m Q' E' := by
  unfold wpX at *
  cases m with
  | ok x =>
    obtain ⟨x, d⟩ := x
    cases x with
    | ok a => exact hq _ _ h
    | exc c fs => exact he _ _ _ h
  | exc c fs => exact h
  | stuck => exact h
theorem wpX_pureC {α δ : Type} {m : Res α} {d : δ} {Q E} (h : wpX (pureX (fun _ => m) d) Q E) : m.wp (fun a => Q a d) (fun c fs => E c fs d) := by
  unfold wpX pureX at h
  cases e : m with
  | ok x => rw [e] at h; exact h
  | exc c fs => rw [e] at h; exact h
  | stuck => rw [e] at h; exact h
theorem wpX_pure {α δ : Type} {m : δ → Res α} {d : δ} {Q E} (h : wpX (pureX m d) Q E) : (m d).wp (fun a => Q a d) (fun c fs => E c fs d) := by
  unfold wpX pureX at h
  cases e : m d with
  | ok x => rw [e] at h; exact h
  | exc c fs => rw [e] at h; exact h
  | stuck => rw [e] at h; exact h
theorem wpX_K {α δ ρ : Type} {m : Xs α δ} {ex : Nat → List (Str × V) → δ → Res ρ} {k : α → δ → Res ρ} {Q E} (h : Wp (bindK m ex k) Q E) : wpX m (fun a d => Wp (k a d) Q E) (fun c fs d => Wp (ex c fs d) Q E) := by
  have h := h.out
  unfold wpX
  unfold bindK at h
  cases m with
  | ok x =>
    obtain ⟨x, d⟩ := x
    cases x with
    | ok a => exact .mk h
    | exc c fs => exact .mk h
  | exc c fs => exact h.elim
  | stuck => exact h.elim
@[irreducible] def WpX {α δ : Type} (m : Xs α δ) (Q : α → δ → Prop) (E : Nat → List (Str × V) → δ → Prop) : Prop := wpX m Q E
theorem WpX.out {α δ : Type} {m : Xs α δ} {Q : α → δ → Prop} {E} (h : WpX m Q E) : wpX m Q E := by unfold WpX at h; exact h
theorem WpX.mk {α δ : Type} {m : Xs α δ} {Q : α → δ → Prop} {E} (h : wpX m Q E) : WpX m Q E := by unfold WpX; exact h
/-- the way out by an exception -/
def exitX {δ : Type} (fm : Fm) (Ob : δ → V → Hp → Own → Prop) (v0 : V) (c : Nat) (fs : List (Str × V)) (d : δ) : Prop := ∀ G O H dd, Hs fm G O H → Ob d v0 G O → XdOk fs dd H → fm.E (.ref (fm.cl c)) dd H
/-- what a def that writes an object promises, its exceptions too -/
def spX {α β δ : Type} (K : PySem.W.Frag) (cl : Nat → Addr) (Ob : δ → V → Hp → Own → Prop) (S : V → Rps α) (R : Rp β) (f : δ → α → Xs β δ) : Sp := fun vs H Q E => ∃ F G O d v0 a, Hs ⟨F, G, E, cl⟩ G O H ∧ Ob d v0 G O ∧ (S v0).r K G vs a ∧
  WpX (f d a) (fun y d' => ∀ v G' O' H', Hs ⟨F, G, E, cl⟩ G' O' H' → Ob d' v0 G' O' → R.r K G' v y → Q v H') (exitX ⟨F, G, E, cl⟩ Ob v0)
theorem spX_ofN {α β δ : Type} {K : PySem.W.Frag} {cl : Nat → Addr} {Ob : δ → V → Hp → Own → Prop} {S : V → Rps α} {R : Rp β} {f : δ → α → Res (β × δ)} (vs : List V) (H : Hp) (Q : VK) (E : XK)
    (h : spX K cl Ob S R (fun s a => liftX (f s a)) vs H Q E) : spN K cl Ob S R f vs H Q E := by
  obtain ⟨F, G, O, d, v0, a, hs, ob, hS, hm⟩ := h
  refine ⟨F, G, O, d, v0, a, hs, ob, hS, .mk ?_⟩
  have hm := hm.out
  dsimp only at hm
  unfold wpX liftX at hm
  cases e : f d a with
  | ok x => rw [e] at hm; exact hm
  | exc c fs => rw [e] at hm; exact hm.elim
  | stuck => rw [e] at hm; exact hm.elim
theorem spX_ofM {α β δ : Type} {K : PySem.W.Frag} {cl : Nat → Addr} {Ob : δ → V → Hp → Own → Prop} {S : Rps α} {R : Rp β} {f : δ → α → Res (β × δ)} (vs : List V) (H : Hp) (Q : VK) (E : XK)
    (h : spX K cl Ob (fun v0 => rsV v0 S) R (fun s a => liftX (f s a)) vs H Q E) : spM K cl Ob S R f vs H Q E := spN_of vs H Q E (spX_ofN vs H Q E h)
/-- what the body of such a def is to reach -/
def QX {β δ : Type} (K : PySem.W.Frag) (fm : Fm) (Ob : δ → V → Hp → Own → Prop) (v0 : V) (R : Rp β) (Q : VK) : Xr β × δ → Prop := fun x => match x.1 with
  | .ok y => ∀ v G' O' H', Hs fm G' O' H' → Ob x.2 v0 G' O' → R.r K G' v y → Q v H'
  | .exc c fs => exitX fm Ob v0 c fs x.2
theorem QX.start {β δ : Type} {K : PySem.W.Frag} {fm : Fm} {Ob : δ → V → Hp → Own → Prop} {v0 : V} {R : Rp β} {Q : VK} {m : Xs β δ} (h : WpX m (fun y d' => ∀ v G' O' H', Hs fm G' O' H' → Ob d' v0 G' O' → R.r K G' v y → Q v H') (exitX fm Ob v0)) : Wp m (QX K fm Ob v0 R Q) fm.xw := .mk (by
  have h := h.out
  unfold wpX at h
  cases m with
  | ok x =>
    obtain ⟨x, d⟩ := x
    cases x with
    | ok a => exact h
    | exc c fs => exact h
  | exc c fs => exact h.elim
  | stuck => exact h.elim)
section
variable {α β γ δ ε ρ : Type} (K : PySem.W.Frag) (fm : Fm) (σ : L2.St) (G : Hp) (La Lb : Own) (Ob : δ → V → Hp → Own → Prop) (v0 : V)
def ExK (G1 : Hp) (c : Nat) (fs : List (Str × V)) (d' : δ) : Prop := ∀ G2 O2 H2 dd, Same G1 G2 → Hs fm G2 (La ++ (O2 ++ Lb)) H2 → Ob d' v0 G2 O2 → XdOk fs dd H2 → fm.E (.ref (fm.cl c)) dd H2
def EvX (te : TE) (R : Rp α) (f : δ → Xs α δ) : Prop := ∀ d O G1 H1, Same G G1 → Hs fm G1 (La ++ (O ++ Lb)) H1 → Ob d v0 G1 O → ∀ Q : VK,
  wpX (f d) (fun x d' => ∀ v G2 O2 H2, Same G1 G2 → Hs fm G2 (La ++ (O2 ++ Lb)) H2 → Ob d' v0 G2 O2 → R.r K G2 v x → Q v H2) (ExK fm La Lb Ob v0 G1) → te σ H1 Q
def EvXA (ta : TA) (S : Rps α) (f : δ → Xs α δ) : Prop := ∀ d O G1 H1, Same G G1 → Hs fm G1 (La ++ (O ++ Lb)) H1 → Ob d v0 G1 O → ∀ Q : List V → Hp → Prop,
  wpX (f d) (fun x d' => ∀ vs G2 O2 H2, Same G1 G2 → Hs fm G2 (La ++ (O2 ++ Lb)) H2 → Ob d' v0 G2 O2 → S.r K G2 vs x → Q vs H2) (ExK fm La Lb Ob v0 G1) → ta σ H1 Q
def EvXT (tt : TT) (f : δ → Xs Bool δ) : Prop := ∀ d O G1 H1, Same G G1 → Hs fm G1 (La ++ (O ++ Lb)) H1 → Ob d v0 G1 O → ∀ Q : Bool → Hp → Prop,
  wpX (f d) (fun x d' => ∀ G2 O2 H2, Same G1 G2 → Hs fm G2 (La ++ (O2 ++ Lb)) H2 → Ob d' v0 G2 O2 → Q x H2) (ExK fm La Lb Ob v0 G1) → tt σ H1 Q
end
section
variable {α β γ δ ε ρ α' : Type} {K : PySem.W.Frag} {fm : Fm} {σ : L2.St} {G G' H H' : Hp} {O O' La Lb : Own} {Ob : δ → V → Hp → Own → Prop} {v0 : V} {d : δ}
variable {te ta tb tc : TE} {R : Rp α} {S : Rp β} {T : Rp γ} {m : Res α} {n : Res β} {f : δ → Xs α δ} {g : δ → Xs β δ}
variable {D : Ends} {tr tt tu tw : TS} {Q : ρ → Prop}
theorem ExK.mono {G1 G2 : Hp} (e : Same G1 G2) {c fs} {d' : δ} (h : ExK fm La Lb Ob v0 G1 c fs d') : ExK fm La Lb Ob v0 G2 c fs d' := fun G3 O3 H3 dd e3 => h G3 O3 H3 dd (e.trans e3)
/-- the frame of a pure step is the whole heap -/
abbrev fmH (fm : Fm) (F : Hp) : Fm := ⟨F, fm.G0, fm.E, fm.cl⟩
theorem y_pure {f : δ → Res α} (obm : Obm Ob) (h : ∀ F d O G', Same G G' → Ob d v0 G' O → EvE K (fmH fm F) te σ G' (La ++ (O ++ Lb)) R (f d)) : EvX K fm σ G La Lb Ob v0 te R (pureX f) := fun d O G1 H1 e hs ob Q q =>
  h H1 d O G1 e ob G1 H1 (Same.refl _) ⟨Same.refl _, hs.gh, fun p hp => (hs.own p hp).1⟩ Q (Res.wp_mono (wpX_pure q) (fun x q v G2 H2 s r => q v G2 O H2 s.gg (hs.stp s) (obm _ _ _ _ _ s.gg ob) r) fun c fs z H' dd a b => z G1 O H' dd (Same.refl _) (hs.stp (Stp.grow hs.gh a)) ob b)
theorem y_pure0 (obm : Obm Ob) (h : ∀ F O, EvE K (fmH fm F) te σ G (La ++ (O ++ Lb)) R m) : EvX K fm σ G La Lb Ob v0 te R (pureX fun _ => m) := y_pure obm fun F d O G' e _ => (h F O).mono e
theorem yt_pure {tt : TT} {f : δ → Res Bool} (obm : Obm Ob) (h : ∀ F d O G', Same G G' → Ob d v0 G' O → EvT (fmH fm F) tt σ G' (La ++ (O ++ Lb)) (f d)) : EvXT fm σ G La Lb Ob v0 tt (pureX f) := fun d O G1 H1 e hs ob Q q =>
  h H1 d O G1 e ob G1 H1 (Same.refl _) ⟨Same.refl _, hs.gh, fun p hp => (hs.own p hp).1⟩ Q (Res.wp_mono (wpX_pure q) (fun x q G2 H2 s => q G2 O H2 s.gg (hs.stp s) (obm _ _ _ _ _ s.gg ob)) fun c fs z H' dd a b => z G1 O H' dd (Same.refl _) (hs.stp (Stp.grow hs.gh a)) ob b)
theorem yt_pure0 {tt : TT} {m : Res Bool} (obm : Obm Ob) (h : ∀ F O, EvT (fmH fm F) tt σ G (La ++ (O ++ Lb)) m) : EvXT fm σ G La Lb Ob v0 tt (pureX fun _ => m) := yt_pure obm fun F d O G' e _ => (h F O).mono e
/-! arguments -/
theorem yA_nil : EvXA K fm σ G La Lb Ob v0 tNil rs0 (pureX fun _ => .ok ()) := fun d O G1 H1 e hs ob Q q => q [] G1 O H1 (Same.refl _) hs ob rfl
theorem yA_one (h : EvX K fm σ G La Lb Ob v0 te R f) : EvXA K fm σ G La Lb Ob v0 (tCons te tNil) (rs1 R) f := fun d O G1 H1 e hs ob Q q =>
  h d O G1 H1 e hs ob _ (wpX_mono q (fun x d' q v G2 O2 H2 e2 hs2 ob2 r => q [v] G2 O2 H2 e2 hs2 ob2 ⟨v, rfl, r⟩) fun _ _ _ z => z)
theorem yA_cons {S : Rps β} {t : TA} (h : EvX K fm σ G La Lb Ob v0 te R f) (hr : EvXA K fm σ G La Lb Ob v0 t S g) : EvXA K fm σ G La Lb Ob v0 (tCons te t) (rsC R S) (pairX f g) := fun d O G1 H1 e hs ob Q q =>
  h d O G1 H1 e hs ob _ (wpX_mono (wpX_bind q) (fun x d' q v G2 O2 H2 e2 hs2 ob2 r =>
    hr d' O2 G2 H2 (e.trans e2) hs2 ob2 _ (wpX_mono (wpX_bind q) (fun y d'' q vs G3 O3 H3 e3 hs3 ob3 r' => q (v :: vs) G3 O3 H3 (e2.trans e3) hs3 ob3 ⟨v, vs, rfl, R.mono e3 r, r'⟩) fun _ _ _ z => ExK.mono e2 z)) fun _ _ _ z => z)
theorem yA_obj {S : Rps β} {t : TA} {i : Nat} (hv : σ[i]? = some (some v0)) (h : EvXA K fm σ G La Lb Ob v0 t S g) : EvXA K fm σ G La Lb Ob v0 (tCons (tVar i) t) (rsV v0 S) g := fun d O G1 H1 e hs ob Q q =>
  ⟨v0, hv, h d O G1 H1 e hs ob _ (wpX_mono q (fun y d' q vs G3 O3 H3 e3 hs3 ob3 r' => q (v0 :: vs) G3 O3 H3 e3 hs3 ob3 ⟨vs, rfl, r'⟩) fun _ _ _ z => z)⟩
/-! calls -/
theorem y_call {S : V → Rps β} {t : TA} {ma : δ → Xs β δ} {h : δ → β → Xs α δ} (ha : EvXA K fm σ G La Lb Ob v0 t (S v0) ma) : EvX K fm σ G La Lb Ob v0 (tCall (spX K fm.cl Ob S R h) [] fm.E t) R (callX ma h) := fun d O G1 H1 e hs ob Q q =>
  ha d O G1 H1 e hs ob _ (wpX_mono (wpX_bind q) (fun x d' q vs G2 O2 H2 e2 hs2 ob2 r =>
    ⟨without O2 H2, G2, O2, d', v0, x, hs2.sub, ob2, by rw [List.append_nil]; exact r, .mk (wpX_mono q (fun y d'' q v G3 O3 H3 hs3 ob3 r3 => q v G3 O3 H3 (e2.trans hs3.g0) (hs2.back2 hs3) ob3 r3) fun c fs d'' z G3 O3 H3 dd hs3 ob3 xd => z G3 O3 H3 dd (e2.trans hs3.g0) (hs2.back2 hs3) ob3 xd)⟩) fun _ _ _ z => z)
theorem y_callP {S : Rps β} {t : TA} {ma : δ → Xs β δ} {h : β → Res α} (obm : Obm Ob) (ha : EvXA K fm σ G La Lb Ob v0 t S ma) : EvX K fm σ G La Lb Ob v0 (tCall (spP K fm.cl S R h) [] fm.E t) R (mapX ma h) := fun d O G1 H1 e hs ob Q q =>
  ha d O G1 H1 e hs ob _ (wpX_mono (wpX_bind q) (fun x d' q vs G2 O2 H2 e2 hs2 ob2 r =>
    ⟨G2, x, hs2.gh, by rw [List.append_nil]; exact r, .mk (Res.wp_mono (wpX_pureC q) (fun y q v G3 H3 s r3 => q v G3 O2 H3 (e2.trans s.gg) (hs2.stp s) (obm _ _ _ _ _ s.gg ob2) r3) fun c fs z H' dd a b => z G2 O2 H' dd e2 (hs2.stp (Stp.grow hs2.gh a)) ob2 b)⟩) fun _ _ _ z => z)
theorem y_callR {Sg : Rps β} {Ss : Rps α'} {ins : ε → β → α'} {Ro : Rp ε} {ro : δ → ε} {t : TA} {ma : δ → Xs β δ} {h : α' → Res α} (obm : Obm Ob) (L : Lends K Ob Ro ro) (sc : Sc R) (cv : Conv K v0 Sg Ro Ss ins) (ha : EvXA K fm σ G La Lb Ob v0 t Sg ma) :
    EvX K fm σ G La Lb Ob v0 (tCall (spP K fm.cl Ss R h) [] fm.E t) R (readX ma fun d a => h (ins (ro d) a)) := fun d O G1 H1 e hs ob Q q =>
  ha d O G1 H1 e hs ob _ (wpX_mono (wpX_bind q) (fun x d' q vs G2 O2 H2 e2 hs2 ob2 r => by
    obtain ⟨Gl, e3, e4, rr⟩ := L fm d' v0 G2 O2 _ H2 hs2.kn (fun p hp => List.mem_append_right _ (List.mem_append_left _ hp)) ob2
    exact ⟨Gl, ins (ro d') x, e4, by rw [List.append_nil]; exact cv.go _ _ _ _ (Sg.mono e3 r) rr, .mk (Res.wp_mono (wpX_pureC q) (fun y q v G3 H3 s r3 => q v G2 O2 H3 e2 (hs2.stp (Stp.grow hs2.gh s.hh)) ob2 (sc _ _ _ _ _ r3)) fun c fs z H' dd a b => z G2 O2 H' dd e2 (hs2.stp (Stp.grow hs2.gh a)) ob2 b)⟩) fun _ _ _ z => z)
theorem y_meth {S : Rps β} {t : TA} {i : Nat} {C : Addr} {mt : Str} {ma : δ → Xs β δ} {h : δ → β → Xs α δ} (hC : ObjM C Ob mt) (hv : σ[i]? = some (some v0)) (ha : EvXA K fm σ G La Lb Ob v0 t S ma) :
    EvX K fm σ G La Lb Ob v0 (tMeth C mt (spX K fm.cl Ob (fun v0 => rsV v0 S) R h) [] fm.E (tVar i) t) R (callX ma h) := fun d O G1 H1 e hs ob Q q => by
  obtain ⟨p, dx, fs, e0, hp, hl⟩ := hC _ _ _ _ ob
  refine ⟨v0, hv, p, dx, fs, e0, (hs.kn.own _ (List.mem_append_right _ (List.mem_append_left _ hp))), hl, ?_⟩
  exact ha d O G1 H1 e hs ob _ (wpX_mono (wpX_bind q) (fun x d' q vs G2 O2 H2 e2 hs2 ob2 r =>
    ⟨without O2 H2, G2, O2, d', v0, x, hs2.sub, ob2, by rw [List.append_nil]; exact ⟨vs, rfl, r⟩, .mk (wpX_mono q (fun y d'' q v G3 O3 H3 hs3 ob3 r3 => q v G3 O3 H3 (e2.trans hs3.g0) (hs2.back2 hs3) ob3 r3) fun c fs d'' z G3 O3 H3 dd hs3 ob3 xd => z G3 O3 H3 dd (e2.trans hs3.g0) (hs2.back2 hs3) ob3 xd)⟩) fun _ _ _ z => z)
theorem y_methR {Sg : Rps β} {Ro : Rp ε} {ro : δ → ε} {t : TA} {i : Nat} {C : Addr} {mt : Str} {ma : δ → Xs β δ} {h : ε × β → Res α} (obm : Obm Ob) (hC : ObjM C Ob mt) (L : Lends K Ob Ro ro) (sc : Sc R) (hv : σ[i]? = some (some v0)) (ha : EvXA K fm σ G La Lb Ob v0 t Sg ma) :
    EvX K fm σ G La Lb Ob v0 (tMeth C mt (spP K fm.cl (rsC Ro Sg) R h) [] fm.E (tVar i) t) R (readX ma fun d a => h (ro d, a)) := fun d O G1 H1 e hs ob Q q => by
  obtain ⟨p, dx, fs, e0, hp, hl⟩ := hC _ _ _ _ ob
  refine ⟨v0, hv, p, dx, fs, e0, (hs.kn.own _ (List.mem_append_right _ (List.mem_append_left _ hp))), hl, ?_⟩
  refine ha d O G1 H1 e hs ob _ (wpX_mono (wpX_bind q) (fun x d' q vs G2 O2 H2 e2 hs2 ob2 r => ?_) fun _ _ _ z => z)
  obtain ⟨Gl, e3, e4, rr⟩ := L fm d' v0 G2 O2 _ H2 hs2.kn (fun p hp => List.mem_append_right _ (List.mem_append_left _ hp)) ob2
  exact ⟨Gl, (ro d', x), e4, by rw [List.append_nil]; exact ⟨v0, vs, rfl, rr, Sg.mono e3 r⟩, .mk (Res.wp_mono (wpX_pureC q) (fun y q v G3 H3 s r3 => q v G2 O2 H3 e2 (hs2.stp (Stp.grow hs2.gh s.hh)) ob2 (sc _ _ _ _ _ r3)) fun c fs z H' dd a b => z G2 O2 H' dd e2 (hs2.stp (Stp.grow hs2.gh a)) ob2 b)⟩
/-! operators -/
theorem y_op1 {Dv : V → TE} {h : α → Res γ} (obm : Obm Ob) (ha : EvX K fm σ G La Lb Ob v0 ta R f) (hp : ∀ F v x G' O, Same G G' → R.r K G' v x → EvE K (fmH fm F) (Dv v) σ G' O T (h x)) (hC : ∀ H Q, (ta σ H fun v H1 => Dv v σ H1 Q) → te σ H Q) :
    EvX K fm σ G La Lb Ob v0 te T (mapX f h) := fun d O G1 H1 e hs ob Q q => hC _ _ <|
  ha d O G1 H1 e hs ob _ (wpX_mono (wpX_bind q) (fun x d' q v G2 O2 H2 e2 hs2 ob2 r =>
    hp H2 v x G2 (La ++ (O2 ++ Lb)) (e.trans e2) r G2 H2 (Same.refl _) ⟨Same.refl _, hs2.gh, fun p hp => (hs2.own p hp).1⟩ Q (Res.wp_mono (wpX_pureC q) (fun y q v G3 H3 s r3 => q v G3 O2 H3 (e2.trans s.gg) (hs2.stp s) (obm _ _ _ _ _ s.gg ob2) r3) fun c fs z H' dd a b => z G2 O2 H' dd e2 (hs2.stp (Stp.grow hs2.gh a)) ob2 b)) fun _ _ _ z => z)
theorem y_op2 {Dv : V → V → TE} {h : α → β → Res γ} (obm : Obm Ob) (ha : EvX K fm σ G La Lb Ob v0 ta R f) (hb : EvX K fm σ G La Lb Ob v0 tb S g) (hp : ∀ F v w x y G' O, Same G G' → R.r K G' v x → S.r K G' w y → EvE K (fmH fm F) (Dv v w) σ G' O T (h x y))
    (hC : ∀ H Q, (ta σ H fun v H1 => tb σ H1 fun w H2 => Dv v w σ H2 Q) → te σ H Q) : EvX K fm σ G La Lb Ob v0 te T (map2X f g h) := fun d O G1 H1 e hs ob Q q => hC _ _ <|
  ha d O G1 H1 e hs ob _ (wpX_mono (wpX_bind q) (fun x d' q v G2 O2 H2 e2 hs2 ob2 r =>
    hb d' O2 G2 H2 (e.trans e2) hs2 ob2 _ (wpX_mono (wpX_bind q) (fun y d'' q w G3 O3 H3 e3 hs3 ob3 r' =>
      hp H3 v w x y G3 (La ++ (O3 ++ Lb)) ((e.trans e2).trans e3) (R.mono e3 r) r' G3 H3 (Same.refl _) ⟨Same.refl _, hs3.gh, fun p hp => (hs3.own p hp).1⟩ Q (Res.wp_mono (wpX_pureC q) (fun z q v G4 H4 s r3 => q v G4 O3 H4 ((e2.trans e3).trans s.gg) (hs3.stp s) (obm _ _ _ _ _ s.gg ob3) r3) fun c fs z H' dd a b => z G3 O3 H' dd (e2.trans e3) (hs3.stp (Stp.grow hs3.gh a)) ob3 b)) fun _ _ _ z => ExK.mono e2 z)) fun _ _ _ z => z)
theorem y_ite {c : TT} {mc : δ → Xs Bool δ} {g : δ → Xs α δ} (hc : EvXT fm σ G La Lb Ob v0 c mc) (ha : EvX K fm σ G La Lb Ob v0 ta R f) (hb : EvX K fm σ G La Lb Ob v0 tb R g) : EvX K fm σ G La Lb Ob v0 (tIf c ta tb) R (iteX mc f g) := fun d O G1 H1 e hs ob Q q =>
  hc d O G1 H1 e hs ob _ (wpX_mono (wpX_bind q) (fun b d2 q G2 O2 H2 e2 hs2 ob2 => by
    cases b with
    | true => exact ha d2 O2 G2 H2 (e.trans e2) hs2 ob2 Q (wpX_mono q (fun y d3 q v G3 O3 H3 e3 => q v G3 O3 H3 (e2.trans e3)) fun _ _ _ z => ExK.mono e2 z)
    | false => exact hb d2 O2 G2 H2 (e.trans e2) hs2 ob2 Q (wpX_mono q (fun y d3 q v G3 O3 H3 e3 => q v G3 O3 H3 (e2.trans e3)) fun _ _ _ z => ExK.mono e2 z)) fun _ _ _ z => z)
/-! tests -/
theorem yt_val {f : δ → Xs Bool δ} (h : EvX K fm σ G La Lb Ob v0 te rB f) : EvXT fm σ G La Lb Ob v0 (tB te) f := fun d O G1 H1 e hs ob Q q =>
  h d O G1 H1 e hs ob _ (wpX_mono q (fun x d' q v G2 O2 H2 e2 hs2 ob2 r => ⟨x, r, q G2 O2 H2 e2 hs2 ob2⟩) fun _ _ _ z => z)
theorem yt_test {f : δ → Xs Bool δ} (h : EvX K fm σ G La Lb Ob v0 te rB f) : EvXT fm σ G La Lb Ob v0 (tTest te) f := yt_val h
theorem yt_not {t : TT} {f : δ → Xs Bool δ} (h : EvXT fm σ G La Lb Ob v0 t f) : EvXT fm σ G La Lb Ob v0 (tNot t) (mapX f fun b => .ok (!b)) := fun d O G1 H1 e hs ob Q q =>
  h d O G1 H1 e hs ob _ (wpX_mono (wpX_bind q) (fun x d' q G2 O2 H2 e2 hs2 ob2 => q G2 O2 H2 e2 hs2 ob2) fun _ _ _ z => z)
theorem yt_and {t u : TT} {f g : δ → Xs Bool δ} (h : EvXT fm σ G La Lb Ob v0 t f) (h' : EvXT fm σ G La Lb Ob v0 u g) : EvXT fm σ G La Lb Ob v0 (tAnd t u) (andX f g) := fun d O G1 H1 e hs ob Q q =>
  h d O G1 H1 e hs ob _ (wpX_mono (wpX_bind q) (fun b d2 q G2 O2 H2 e2 hs2 ob2 => by
    cases b with
    | true => exact h' d2 O2 G2 H2 (e.trans e2) hs2 ob2 Q (wpX_mono q (fun y d3 q G3 O3 H3 e3 => q G3 O3 H3 (e2.trans e3)) fun _ _ _ z => ExK.mono e2 z)
    | false => exact q G2 O2 H2 e2 hs2 ob2) fun _ _ _ z => z)
theorem yt_or {t u : TT} {f g : δ → Xs Bool δ} (h : EvXT fm σ G La Lb Ob v0 t f) (h' : EvXT fm σ G La Lb Ob v0 u g) : EvXT fm σ G La Lb Ob v0 (tOr t u) (orX f g) := fun d O G1 H1 e hs ob Q q =>
  h d O G1 H1 e hs ob _ (wpX_mono (wpX_bind q) (fun b d2 q G2 O2 H2 e2 hs2 ob2 => by
    cases b with
    | false => exact h' d2 O2 G2 H2 (e.trans e2) hs2 ob2 Q (wpX_mono q (fun y d3 q G3 O3 H3 e3 => q G3 O3 H3 (e2.trans e3)) fun _ _ _ z => ExK.mono e2 z)
    | true => exact q G2 O2 H2 e2 hs2 ob2) fun _ _ _ z => z)
theorem y_and {f g : δ → Xs Bool δ} (h : EvX K fm σ G La Lb Ob v0 ta rB f) (h' : EvX K fm σ G La Lb Ob v0 tb rB g) : EvX K fm σ G La Lb Ob v0 (tAndV ta tb) rB (andX f g) := fun d O G1 H1 e hs ob Q q =>
  h d O G1 H1 e hs ob _ (wpX_mono (wpX_bind q) (fun b d2 q v G2 O2 H2 e2 hs2 ob2 r => ⟨b, r, by
    cases b with
    | true => exact h' d2 O2 G2 H2 (e.trans e2) hs2 ob2 Q (wpX_mono q (fun y d3 q v G3 O3 H3 e3 => q v G3 O3 H3 (e2.trans e3)) fun _ _ _ z => ExK.mono e2 z)
    | false => exact q _ G2 O2 H2 e2 hs2 ob2 rfl⟩) fun _ _ _ z => z)
theorem y_or {f g : δ → Xs Bool δ} (h : EvX K fm σ G La Lb Ob v0 ta rB f) (h' : EvX K fm σ G La Lb Ob v0 tb rB g) : EvX K fm σ G La Lb Ob v0 (tOrV ta tb) rB (orX f g) := fun d O G1 H1 e hs ob Q q =>
  h d O G1 H1 e hs ob _ (wpX_mono (wpX_bind q) (fun b d2 q v G2 O2 H2 e2 hs2 ob2 r => ⟨b, r, by
    cases b with
    | false => exact h' d2 O2 G2 H2 (e.trans e2) hs2 ob2 Q (wpX_mono q (fun y d3 q v G3 O3 H3 e3 => q v G3 O3 H3 (e2.trans e3)) fun _ _ _ z => ExK.mono e2 z)
    | true => exact q _ G2 O2 H2 e2 hs2 ob2 rfl⟩) fun _ _ _ z => z)
/-! statements; hx: how an exception leaves -/
variable {ex : Nat → List (Str × V) → δ → Res ρ}
abbrev HX (fm : Fm) (La Lb : Own) (Ob : δ → V → Hp → Own → Prop) (v0 : V) (G : Hp) (ex : Nat → List (Str × V) → δ → Res ρ) (Q : ρ → Prop) : Prop := ∀ c fs d', Wp (ex c fs d') Q fm.xw → ExK fm La Lb Ob v0 G c fs d'
theorem w_asgY {g : TG} {Ss : Rps α} {is : List Nat} {mk : α → δ → Res ρ} (tg : Tgt K g R Ss is) (he : EvX K fm σ G La Lb Ob v0 te R f) (hs : Hs fm G (La ++ (O ++ Lb)) H) (ob : Ob d v0 G O) (hx : HX fm La Lb Ob v0 G ex Q) (hm : Wp (bindK (f d) ex mk) Q fm.xw)
    (k : ∀ x d' vs G' O' H', Same G G' → Hs fm G' (La ++ (O' ++ Lb)) H' → Ob d' v0 G' O' → Ss.r K G' vs x → Wp (mk x d') Q fm.xw → tr D (setL σ is vs) H') : tSeq (tAsg te g) tr D σ H :=
  he d O G H (Same.refl _) hs ob _ (wpX_mono (wpX_K hm) (fun x d' q v G2 O2 H2 e2 hs2 ob2 r => tg G2 H2 v x σ _ hs2.gh r fun vs rv => k x d' vs G2 O2 H2 e2 hs2 ob2 rv q) fun c fs d' z => hx c fs d' z)
theorem w_dropY {mk : α → δ → Res ρ} (he : EvX K fm σ G La Lb Ob v0 te R f) (hs : Hs fm G (La ++ (O ++ Lb)) H) (ob : Ob d v0 G O) (hx : HX fm La Lb Ob v0 G ex Q) (hm : Wp (bindK (f d) ex mk) Q fm.xw)
    (k : ∀ x d' G' O' H', Same G G' → Hs fm G' (La ++ (O' ++ Lb)) H' → Ob d' v0 G' O' → Wp (mk x d') Q fm.xw → tr D σ H') : tSeq (tDrop te) tr D σ H :=
  he d O G H (Same.refl _) hs ob _ (wpX_mono (wpX_K hm) (fun x d' q v G2 O2 H2 e2 hs2 ob2 r => k x d' G2 O2 H2 e2 hs2 ob2 q) fun c fs d' z => hx c fs d' z)
theorem w_retY {kr : α → δ → ρ} (he : EvX K fm σ G La Lb Ob v0 te R f) (hs : Hs fm G (La ++ (O ++ Lb)) H) (ob : Ob d v0 G O) (hx : HX fm La Lb Ob v0 G ex Q) (hm : Wp (bindK (f d) ex fun r d => .ok (kr r d)) Q fm.xw)
    (k : ∀ x d' v G' O' H', Same G G' → Hs fm G' (La ++ (O' ++ Lb)) H' → Ob d' v0 G' O' → R.r K G' v x → Q (kr x d') → D.rt v H') : tSeq (tRet te) tr D σ H :=
  he d O G H (Same.refl _) hs ob _ (wpX_mono (wpX_K hm) (fun x d' q v G2 O2 H2 e2 hs2 ob2 r => k x d' v G2 O2 H2 e2 hs2 ob2 r q.out) fun c fs d' z => hx c fs d' z)
theorem w_ifY {c : TT} {mc : δ → Xs Bool δ} {a b : δ → Res ρ} (hc : EvXT fm σ G La Lb Ob v0 c mc) (hs : Hs fm G (La ++ (O ++ Lb)) H) (ob : Ob d v0 G O) (hx : HX fm La Lb Ob v0 G ex Q) (hm : Wp (bindK (mc d) ex fun x d => if x = true then a d else b d) Q fm.xw)
    (h1 : ∀ d' G' O' H', Same G G' → Hs fm G' (La ++ (O' ++ Lb)) H' → Ob d' v0 G' O' → Wp (a d') Q fm.xw → tt { D with nx := tr D } σ H') (h2 : ∀ d' G' O' H', Same G G' → Hs fm G' (La ++ (O' ++ Lb)) H' → Ob d' v0 G' O' → Wp (b d') Q fm.xw → tu { D with nx := tr D } σ H') : tSeq (tIfS c tt tu) tr D σ H :=
  hc d O G H (Same.refl _) hs ob _ (wpX_mono (wpX_K hm) (fun k d2 q G2 O2 H2 e2 hs2 ob2 => by
    cases k with
    | true => exact h1 d2 G2 O2 H2 e2 hs2 ob2 q
    | false => exact h2 d2 G2 O2 H2 e2 hs2 ob2 q) fun c fs d' z => hx c fs d' z)
/-- in a def whose exceptions tell the state -/
theorem hx_fn {R : Rp β} {Q : VK} : HX fm La Lb Ob v0 G (exX (α := β)) (QX K fm Ob v0 R Q) := fun c fs d' q G2 O2 H2 dd e hs ob xd => q.out G2 O2 H2 dd hs.only ob xd
/-- in a def that owns the object -/
theorem hx_own : HX fm La Lb Ob v0 G (fun c fs (_ : δ) => (.exc c fs : Res ρ)) Q := fun c fs d' q G2 O2 H2 dd e hs ob xd => q.out H2 dd hs.fr xd
theorem QX.ret {R : Rp β} {Q : VK} {x : β} {d' : δ} (h : QX K fm Ob v0 R Q (.ok x, d')) {v : V} {G2 : Hp} {O2 : Own} {H2 : Hp} (hs : Hs fm G2 (La ++ (O2 ++ Lb)) H2) (ob : Ob d' v0 G2 O2) (r : R.r K G2 v x) : Q v H2 := h v G2 O2 H2 hs.only ob r
/-! ### comprehensions whose items write -/
def lcX {α β δ : Type} (f : α → δ → Xs β δ) : List α → δ → Xs (List β) δ
  | [], d => .ok (.ok [], d)
  | x :: xs, d => bindK (f x d) (fun _ _ _ => .stuck) fun y d => bindX (lcX f xs d) fun ys d => .ok (.ok (y :: ys), d)
def lcBX {α β δ : Type} (f : α → δ → Xs β δ) (m : Res (List α)) : δ → Xs (List β) δ := fun d => match m with | .ok xs => if xs.length < lim then lcX f xs d else .stuck | .exc c fs => .ok (.exc c fs, d) | .stuck => .stuck
theorem wpX_S {α β δ : Type} {m : Xs α δ} {k : α → δ → Xs β δ} {Q E} (h : wpX (bindK m (fun _ _ _ => .stuck) k) Q E) : wpX m (fun a d => wpX (k a d) Q E) (fun _ _ _ => False) := by
  unfold wpX bindK at *
  cases m with
  | ok x =>
    obtain ⟨x, d⟩ := x
    cases x with
    | ok a => exact h
    | exc c fs => exact h
  | exc c fs => exact h.elim
  | stuck => exact h.elim
end
end Mw

namespace Mw
open PySem PySem.Spec PyProof.Rows L2
/-! ### loops in defs whose exceptions tell the object's state -/
structure YEnds {S ρ : Type} (fm : Fm) (G : Hp) (W : S → L2.St → Hp → Own → Prop) (RT : ρ → V → Hp → Own → Prop) (XP : ρ → Prop) (Qb : Tn S ρ → Prop) (D : Ends) : Prop where
  nx : ∀ s σ G1 G2 O H, Same G G2 → W s σ G1 O → Same G1 G2 → Hs fm G2 O H → Qb (.nx s) → D.nx σ H
  ct : ∀ s σ G1 G2 O H, Same G G2 → W s σ G1 O → Same G1 G2 → Hs fm G2 O H → Qb (.nx s) → D.ct σ H
  bk : ∀ s σ G1 G2 O H, Same G G2 → W s σ G1 O → Same G1 G2 → Hs fm G2 O H → Qb (.bk s) → D.bk σ H
  rt : ∀ r v G2 O H, Hs fm G2 O H → RT r v G2 O → Qb (.rt r) → D.rt v H
  xt : ∀ r, Qb (.rt r) → XP r
section
variable {α β γ δ ρ : Type} {K : PySem.W.Frag} {fm : Fm} {σ : L2.St} {G G' H H' : Hp} {O : Own}
variable {te ta tb tc : TE} {R : Rp α} {S : Rp β} {T : Rp γ} {m : Res α} {n : Res β}
variable {D : Ends} {tr tt tu tw : TS} {Q : ρ → Prop}
theorem s_forBY {Oi : Own} {S : Type} {Sr : Type} {ti : TI} {g : TG} {Ss : Rps α} {is : List Nat} {m : Res (List α)} {f : α → S → Res (Tn S Sr)} {mk : Lp S Sr → Res ρ} {s0 : S} (W : S → L2.St → Hp → Own → Prop) (RT : Sr → V → Hp → Own → Prop) (XP : Sr → Prop)
    (hi : EvI K fm ti σ G O Oi R m) (hO : ∀ s σ G O, W s σ G O → ∀ p ∈ Oi, p ∈ O) (tg : Tgt K g R Ss is) (hs : Hs fm G O H) (hm : ((m.bind fun xs => forB f xs s0).bind mk).wp Q fm.xw) (h0 : W s0 σ G O)
    (hb : ∀ x s σ' G1 G' O' H' vs (D' : Ends) (Qb : Tn S Sr → Prop), Same G G' → W s σ' G1 O' → Same G1 G' → Hs fm G' O' H' → Ss.r K G' vs x → YEnds fm G' W RT XP Qb D' → (f x s).wp Qb fm.xw → tw D' (setL σ' is vs) H')
    (hn : ∀ s σ' G1 G' O' H', Same G G' → W s σ' G1 O' → Same G1 G' → Hs fm G' O' H' → (mk (.nx s)).wp Q fm.xw → tr D σ' H')
    (hr : ∀ r v G2 O2 H2, Hs fm G2 O2 H2 → RT r v G2 O2 → (mk (.rt r)).wp Q fm.xw → D.rt v H2) (hxt : ∀ r, (mk (.rt r)).wp Q fm.xw → XP r) : tSeq (tFor ti g tw) tr D σ H := by
  refine hi G H (Same.refl _) hs.kn _ (Res.wp_mono (Res.wp_bind (Res.wp_bind hm)) (fun xs q J G2 H2 s it => ?_) fun _ _ z => z)
  refine ⟨fun i mm σ' H' => mm = xs.length - i ∧ i ≤ xs.length ∧ ∃ s' G1 G' O', Same G2 G' ∧ W s' σ' G1 O' ∧ Same G1 G' ∧ Hs fm G' O' H' ∧ ((forB f (xs.drop i) s').bind mk).wp Q fm.xw,
    ⟨xs.length, by simp, Nat.zero_le _, s0, G, G2, O, Same.refl _, h0, s.gg, hs.stp s, by
      rw [List.drop_zero]
      cases hx : forB f xs s0 with
      | ok a => rw [hx] at q; exact q
      | exc c fs => rw [hx] at q; exact q
      | stuck => rw [hx] at q; exact q⟩, ?_⟩
  rintro i mm σ' H' ⟨rfl, hle, s', G1, G', O', g2, w, g1, hs', q'⟩
  by_cases hlt : i < xs.length
  · refine .inr ⟨it.go i G' H' g2 hs'.gh (fun p hp => (hs'.own p (hO _ _ _ _ w p hp)).1) hlt, _, fun σ2 H2 z => ⟨xs.length - (i + 1), by omega, z⟩, fun v H3 y => ?_⟩
    obtain ⟨x, G4, hx, s4, rx⟩ := it.yld i G' H' v H3 g2 hs'.gh (fun p hp => (hs'.own p (hO _ _ _ _ w p hp)).1) hlt y
    have hdrop : xs.drop i = x :: xs.drop (i + 1) := by
      obtain ⟨h1, h2⟩ := List.getElem?_eq_some_iff.mp hx
      rw [List.drop_eq_getElem_cons h1, h2]
    rw [hdrop] at q'
    refine tg G4 H3 v x _ _ s4.gh rx fun vs rvs => ?_
    refine hb x s' σ' G1 G4 O' H3 vs _ (fun t => ((match t with | .nx s' => forB f (xs.drop (i + 1)) s' | .bk s' => .ok (.nx s') | .rt r => .ok (.rt r)).bind mk).wp Q fm.xw) ((s.gg.trans g2).trans s4.gg) w (g1.trans s4.gg) (hs'.stp s4) rvs ⟨?_, ?_, ?_, ?_, fun r q => hxt r q⟩ (Res.wp_bind (by
      have := q'
      rw [forB] at this
      cases hx : f x s' with
      | ok a => rw [hx] at this; exact this
      | exc c fs => rw [hx] at this; exact this
      | stuck => rw [hx] at this; exact this))
    · exact fun s5 σ5 G5 G6 O5 H5 a b c d e => ⟨rfl, hlt, s5, G5, G6, O5, (g2.trans s4.gg).trans a, b, c, d, e⟩
    · exact fun s5 σ5 G5 G6 O5 H5 a b c d e => ⟨rfl, hlt, s5, G5, G6, O5, (g2.trans s4.gg).trans a, b, c, d, e⟩
    · exact fun s5 σ5 G5 G6 O5 H5 a b c d e => hn s5 σ5 G5 G6 O5 H5 (((s.gg.trans g2).trans s4.gg).trans a) b c d e
    · exact fun r v G5 O5 H5 a b c => hr r v G5 O5 H5 a b c
  · have ei : i = xs.length := by omega
    subst ei
    rw [List.drop_length] at q'
    exact .inl ⟨it.stop G' H' g2 hs'.gh (fun p hp => (hs'.own p (hO _ _ _ _ w p hp)).1), hn s' σ' G1 G' O' H' (s.gg.trans g2) w g1 hs' q'⟩
theorem s_whBY {S : Type} {Sr : Type} {c : TT} {mc : S → Res Bool} {f : S → Res (Tn S Sr)} {mk : Lp S Sr → Res ρ} {s0 : S} {fuel : Nat} (W : S → L2.St → Hp → Own → Prop) (RT : Sr → V → Hp → Own → Prop) (XP : Sr → Prop)
    (hs : Hs fm G O H) (hm : ((whB mc f fuel s0).bind mk).wp Q fm.xw) (h0 : W s0 σ G O)
    (hc : ∀ s σ' G1 G' O', Same G G' → W s σ' G1 O' → Same G1 G' → EvT fm c σ' G' O' (mc s))
    (hb : ∀ s σ' G1 G' O' H' (D' : Ends) (Qb : Tn S Sr → Prop), Same G G' → W s σ' G1 O' → Same G1 G' → Hs fm G' O' H' → YEnds fm G' W RT XP Qb D' → (f s).wp Qb fm.xw → tw D' σ' H')
    (hn : ∀ s σ' G1 G' O' H', Same G G' → W s σ' G1 O' → Same G1 G' → Hs fm G' O' H' → (mk (.nx s)).wp Q fm.xw → tr D σ' H')
    (hr : ∀ r v G2 O2 H2, Hs fm G2 O2 H2 → RT r v G2 O2 → (mk (.rt r)).wp Q fm.xw → D.rt v H2) (hxt : ∀ r, (mk (.rt r)).wp Q fm.xw → XP r) : tSeq (tWhile c tw) tr D σ H := by
  refine ⟨fun mm σ' H' => ∃ s' G1 G' O', Same G G' ∧ W s' σ' G1 O' ∧ Same G1 G' ∧ Hs fm G' O' H' ∧ ((whB mc f mm s').bind mk).wp Q fm.xw, ⟨fuel, s0, G, G, O, Same.refl _, h0, Same.refl _, hs, hm⟩, ?_⟩
  rintro mm σ' H' ⟨s', G1, G', O', g, w, g1, hs', q'⟩
  cases mm with
  | zero => exact q'.elim
  | succ mm =>
    have q1 : (mc s').wp (fun b => ((if b = true then (f s').bind fun t => match t with | .nx s' => whB mc f mm s' | .bk s' => .ok (.nx s') | .rt r => .ok (.rt r) else .ok (.nx s')).bind mk).wp Q fm.xw) fm.xw := by
      rw [whB] at q'
      cases hx : mc s' with
      | ok a => rw [hx] at q'; exact q'
      | exc c fs => rw [hx] at q'; exact q'
      | stuck => rw [hx] at q'; exact q'
    refine hc s' σ' G1 G' O' g w g1 G' H' (Same.refl _) hs'.kn _ (Res.wp_mono q1 (fun b q2 G2 H2 s2 => ?_) fun _ _ z => z)
    cases b with
    | true =>
      refine iteT ⟨_, fun σ2 H2 z => ⟨mm, Nat.lt_succ_self _, z⟩, ?_⟩
      rw [if_pos rfl] at q2
      refine hb s' σ' G1 G2 O' H2 _ (fun t => ((match t with | .nx s' => whB mc f mm s' | .bk s' => .ok (.nx s') | .rt r => .ok (.rt r)).bind mk).wp Q fm.xw) (g.trans s2.gg) w (g1.trans s2.gg) (hs'.stp s2) ⟨?_, ?_, ?_, ?_, fun r q => hxt r q⟩ (Res.wp_bind (by
        cases hx : f s' with
        | ok a => rw [hx] at q2; exact q2
        | exc c fs => rw [hx] at q2; exact q2
        | stuck => rw [hx] at q2; exact q2))
      · exact fun s5 σ5 G5 G6 O5 H5 a b c d e => ⟨s5, G5, G6, O5, (g.trans s2.gg).trans a, b, c, d, e⟩
      · exact fun s5 σ5 G5 G6 O5 H5 a b c d e => ⟨s5, G5, G6, O5, (g.trans s2.gg).trans a, b, c, d, e⟩
      · exact fun s5 σ5 G5 G6 O5 H5 a b c d e => hn s5 σ5 G5 G6 O5 H5 ((g.trans s2.gg).trans a) b c d e
      · exact fun r v G5 O5 H5 a b c => hr r v G5 O5 H5 a b c
    | false =>
      refine iteF ?_
      rw [if_neg Bool.false_ne_true] at q2
      exact hn s' σ' G1 G2 O' H2 (g.trans s2.gg) w (g1.trans s2.gg) (hs'.stp s2) q2
theorem w_forBY {Oi : Own} {S : Type} {Sr : Type} {ti : TI} {g : TG} {Ss : Rps α} {is : List Nat} {m : Res (List α)} {f : α → S → Res (Tn S Sr)} {N : S → Res ρ} {Rt : Sr → Res ρ} {s0 : S} (W : S → L2.St → Hp → Own → Prop) (RT : Sr → V → Hp → Own → Prop) (XP : Sr → Prop)
    (hi : EvI K fm ti σ G O Oi R m) (hO : ∀ s σ G O, W s σ G O → ∀ p ∈ Oi, p ∈ O) (tg : Tgt K g R Ss is) (hs : Hs fm G O H) (hm : Wp ((m.bind fun xs => forB f xs s0).bind (Lp.el N Rt)) Q fm.xw) (h0 : W s0 σ G O)
    (hr : ∀ r v G2 O2 H2, Hs fm G2 O2 H2 → RT r v G2 O2 → (Rt r).wp Q fm.xw → D.rt v H2) (hxt : ∀ r, (Rt r).wp Q fm.xw → XP r)
    (hb : ∀ x s σ' G1 G' O' H' vs (D' : Ends) (Qb : Tn S Sr → Prop), Same G G' → W s σ' G1 O' → Same G1 G' → Hs fm G' O' H' → Ss.r K G' vs x → YEnds fm G' W RT XP Qb D' → Wp (f x s) Qb fm.xw → tw D' (setL σ' is vs) H')
    (hn : ∀ s σ' G1 G' O' H', Same G G' → W s σ' G1 O' → Same G1 G' → Hs fm G' O' H' → Wp (N s) Q fm.xw → tr D σ' H') : tSeq (tFor ti g tw) tr D σ H :=
  s_forBY W RT XP hi hO tg hs hm.out h0 (fun x s σ' G1 G' O' H' vs D' Qb a b c d e f g => hb x s σ' G1 G' O' H' vs D' Qb a b c d e f (.mk g)) (fun s σ' G1 G' O' H' a b c d e => hn s σ' G1 G' O' H' a b c d (.mk e)) hr hxt
theorem w_whBY {S : Type} {Sr : Type} {c : TT} {mc : S → Res Bool} {f : S → Res (Tn S Sr)} {N : S → Res ρ} {Rt : Sr → Res ρ} {s0 : S} {fuel : Nat} (W : S → L2.St → Hp → Own → Prop) (RT : Sr → V → Hp → Own → Prop) (XP : Sr → Prop)
    (hs : Hs fm G O H) (hm : Wp ((whB mc f fuel s0).bind (Lp.el N Rt)) Q fm.xw) (h0 : W s0 σ G O)
    (hr : ∀ r v G2 O2 H2, Hs fm G2 O2 H2 → RT r v G2 O2 → (Rt r).wp Q fm.xw → D.rt v H2) (hxt : ∀ r, (Rt r).wp Q fm.xw → XP r)
    (hc : ∀ s σ' G1 G' O', Same G G' → W s σ' G1 O' → Same G1 G' → EvT fm c σ' G' O' (mc s))
    (hb : ∀ s σ' G1 G' O' H' (D' : Ends) (Qb : Tn S Sr → Prop), Same G G' → W s σ' G1 O' → Same G1 G' → Hs fm G' O' H' → YEnds fm G' W RT XP Qb D' → Wp (f s) Qb fm.xw → tw D' σ' H')
    (hn : ∀ s σ' G1 G' O' H', Same G G' → W s σ' G1 O' → Same G1 G' → Hs fm G' O' H' → Wp (N s) Q fm.xw → tr D σ' H') : tSeq (tWhile c tw) tr D σ H :=
  s_whBY W RT XP hs hm.out h0 hc (fun s σ' G1 G' O' H' D' Qb a b c d e f => hb s σ' G1 G' O' H' D' Qb a b c d e (.mk f)) (fun s σ' G1 G' O' H' a b c d e => hn s σ' G1 G' O' H' a b c d (.mk e)) hr hxt
end
/-! what a return in a loop tells, what an exception does -/
def RTX {β δ : Type} (K : PySem.W.Frag) (Ob : δ → V → Hp → Own → Prop) (v0 : V) (R : Rp β) : Xr β × δ → V → Hp → Own → Prop := fun r v G O => ∃ a, r.1 = .ok a ∧ Ob r.2 v0 G O ∧ R.r K G v a
def XPX {β δ : Type} (fm : Fm) (Ob : δ → V → Hp → Own → Prop) (v0 : V) : Xr β × δ → Prop := fun r => match r.1 with | .ok _ => True | .exc c fs => exitX fm Ob v0 c fs r.2
section
variable {α β γ δ ρ S : Type} {K : PySem.W.Frag} {fm : Fm} {σ : L2.St} {G G' H H' : Hp} {O La Lb : Own} {Ob : δ → V → Hp → Own → Prop} {v0 : V} {d : δ}
variable {te ta tb tc : TE} {R : Rp α} {T : Rp γ} {D : Ends} {tr tt tu tw : TS} {Q : ρ → Prop}
theorem rtx_fn {R : Rp β} {Q : VK} : ∀ (r : Xr β × δ) v G2 O2 H2, Hs fm G2 O2 H2 → RTX K Ob v0 R r v G2 O2 → Res.wp (.ok r) (QX K fm Ob v0 R Q) fm.xw → Q v H2 := fun r v G2 O2 H2 hs ⟨a, e, ob, rr⟩ q => by
  obtain ⟨x, d⟩ := r
  cases e
  exact q v G2 O2 H2 hs ob rr
theorem xpx_fn {R : Rp β} {Q : VK} : ∀ (r : Xr β × δ), Res.wp (.ok r) (QX K fm Ob v0 R Q) fm.xw → XPX fm Ob v0 r := fun r q => by
  obtain ⟨x, d⟩ := r
  cases x with
  | ok a => exact True.intro
  | exc c fs => exact q
/-- an exception in a loop -/
def exT {S α δ : Type} : Nat → List (Str × V) → δ → Res (Tn S (Xr α × δ)) := fun c fs d => .ok (.rt (.exc c fs, d))
theorem hx_loop {W : S → L2.St → Hp → Own → Prop} {RT : Xr β × δ → V → Hp → Own → Prop} {Qb : Tn S (Xr β × δ) → Prop} {D' : Ends} {G1 : Hp} (E : YEnds fm G W RT (XPX fm Ob v0) Qb D') : HX fm La Lb Ob v0 G1 (exT (S := S) (α := β)) Qb := fun c fs d' q G2 O2 H2 dd e hs ob xd => E.xt (.exc c fs, d') q.out G2 O2 H2 dd hs.only ob xd
theorem perm_last (La O Lb : Own) (x : Addr × HO) : (La ++ (O ++ (Lb ++ [x]))).Perm (x :: (La ++ (O ++ Lb))) := by
  have : La ++ (O ++ (Lb ++ [x])) = (La ++ (O ++ Lb)) ++ [x] := by simp [List.append_assoc]
  rw [this]
  exact List.perm_append_singleton _ _
/-- [e for x in xs], e writes the object -/
theorem y_lc0 {ti : TI} {g : TG} {ws is : List Nat} {m : Res (List α)} {Ss : Rps α} {Se : Rp β} {f : α → δ → Xs β δ} (obm : Obm Ob)
    (hi : ∀ F O, EvI K (fmH fm F) ti σ G (La ++ (O ++ Lb)) [] R m) (tg : Tgt K g R Ss is) (hw : ∀ i ∈ is, i ∈ ws)
    (hb : ∀ x vs G' Lb', Same G G' → Ss.r K G' vs x → EvX K fm.e0 (setL (wipe σ ws) is vs) G' La Lb' Ob v0 te Se (f x)) :
    EvX K fm σ G La Lb Ob v0 (tLc ti g (fun _ H Q => Q true H) te ws) (rK Se) (lcBX f m) := fun d O G1 H1 e hs ob Q q => by
  have key : ∀ xs, m = .ok xs → wpX (if xs.length < lim then lcX f xs d else .stuck) (fun x d' => ∀ v G2 O2 H2, Same G1 G2 → Hs fm G2 (La ++ (O2 ++ Lb)) H2 → Ob d' v0 G2 O2 → (rK Se).r K G2 v x → Q v H2) (ExK fm La Lb Ob v0 G1) := fun xs em => by
    have q := q
    unfold lcBX at q
    rw [em] at q
    exact q
  refine hi H1 O G1 H1 e ⟨Same.refl _, hs.gh, fun p hp => (hs.own p hp).1⟩ _ ?_
  cases em : m with
  | stuck => rw [show lcBX f m d = .stuck by unfold lcBX; rw [em]] at q; exact q
  | exc c fs =>
    rw [show lcBX f m d = .ok (.exc c fs, d) by unfold lcBX; rw [em]] at q
    exact fun H' dd a b => q G1 O H' dd (Same.refl _) (hs.stp (Stp.grow hs.gh a)) ob b
  | ok xs =>
    intro J G2 H2 s it Dl hD
    have q := key xs em
    by_cases hl : xs.length < lim
    · rw [if_pos hl] at q
      have hs2 := hs.stp s
      have hsD : Hs fm G2 (La ++ (O ++ (Lb ++ [(Dl, .lst [])]))) (upd H2 Dl (.lst [])) := (hs2.new (Stp.grow hs2.gh (same_new hD)) hD (same_back hs2.gh hD) upd_same).perm (perm_last _ _ _ _)
      refine ⟨fun i mm H => mm = xs.length - i ∧ i ≤ xs.length ∧ ∃ (G3 : Hp) (acc : List V) (ys : List β) (d3 : δ) (O3 : Own), Same G2 G3 ∧ Hs fm G3 (La ++ (O3 ++ (Lb ++ [(Dl, .lst acc)]))) H ∧ Ob d3 v0 G3 O3 ∧ acc.length ≤ i ∧ RLs Se K G3 acc ys ∧
          wpX (lcX f (xs.drop i) d3) (fun zs d' => ∀ v G4 O4 H4, Same G1 G4 → Hs fm G4 (La ++ (O4 ++ Lb)) H4 → Ob d' v0 G4 O4 → (rK Se).r K G4 v (ys ++ zs) → Q v H4) (fun _ _ _ => True),
        ⟨xs.length, by simp, Nat.zero_le _, G2, [], [], d, O, Same.refl _, hsD, obm _ _ _ _ _ s.gg ob, Nat.le_refl _, .nil, wpX_mono q (fun _ _ z => z) fun _ _ _ _ => True.intro⟩, ?_⟩
      rintro i mm H ⟨rfl, hle, G3, acc, ys, d3, O3, g3, hs3, ob3, hacc, racc, q3⟩
      by_cases hlt : i < xs.length
      · refine .inr ⟨it.go i G3 H g3 hs3.gh (fun p hp => nomatch hp) hlt, _, fun H' z => ⟨xs.length - (i + 1), by omega, z⟩, fun v H' y => ?_⟩
        obtain ⟨x, G4, hx, s4, rx⟩ := it.yld i G3 H v H' g3 hs3.gh (fun p hp => nomatch hp) hlt y
        have hdrop : xs.drop i = x :: xs.drop (i + 1) := by
          obtain ⟨h1, h2⟩ := List.getElem?_eq_some_iff.mp hx
          rw [List.drop_eq_getElem_cons h1, h2]
        rw [hdrop] at q3
        refine tg G4 H' v x _ _ s4.gh rx fun vs rvs => ⟨by rw [wipe_setL hw, wipe_wipe fun i h => h], ?_⟩
        refine iteT ?_
        have hs4 := hs3.stp s4
        have he := hb x vs G4 (Lb ++ [(Dl, .lst acc)]) ((e.trans s.gg).trans (g3.trans s4.gg)) rvs
        refine he d3 O3 G4 H' (Same.refl _) hs4.withE (obm _ _ _ _ _ s4.gg ob3) _ (wpX_mono (wpX_S q3) (fun y' d6 q6 v' G6 O6 H6 e6 hs6 ob6 r6 => ?_) fun _ _ _ z => z.elim)
        have hs6' : Hs fm G6 (La ++ (O6 ++ (Lb ++ [(Dl, .lst acc)]))) H6 := hs6.withE (E' := fm.E)
        have hp := hs6'.perm (perm_last La O6 Lb (Dl, .lst acc)).symm
        have hset := (hp.set 0 (a := Dl) (o := .lst acc) (o' := .lst (acc ++ [v'])) rfl).perm (perm_last La O6 Lb (Dl, .lst (acc ++ [v'])))
        refine ⟨acc, (hp.at 0 rfl).1, by rw [← lim_eq]; omega, rfl, hlt, G6, acc ++ [v'], ys ++ [y'], d6, O6, g3.trans (s4.gg.trans e6), hset, ob6, by rw [List.length_append, List.length_singleton]; omega, paired_app (racc.mono (s4.gg.trans e6)) (.cons r6 .nil), ?_⟩
        exact wpX_mono (wpX_bind q6) (fun zs d7 q7 w G7 O7 H7 a b c r => q7 w G7 O7 H7 a b c (by rw [List.append_assoc] at r; exact r)) fun _ _ _ z => z
      · have ei : i = xs.length := by omega
        subst ei
        rw [List.drop_length] at q3
        have hp := hs3.perm (perm_last La O3 Lb (Dl, .lst acc)).symm
        have hg := hp.give 0 rfl
        have gD : G3 Dl = none := (hp.at 0 rfl).2.1
        have e3 : Same G3 (upd G3 Dl (.lst acc)) := same_new gD
        exact .inl ⟨it.stop G3 H g3 hs3.gh (fun p hp => nomatch hp), q3 (.ref Dl) (upd G3 Dl (.lst acc)) O3 H ((s.gg.trans g3).trans e3) hg (obm _ _ _ _ _ e3 ob3) ⟨Dl, acc, rfl, upd_same, by rw [List.append_nil]; exact racc.mono e3⟩⟩
    · rw [if_neg hl] at q
      exact q.elim

/-- The list display whose elements may raise, in the kit's own spelling of the condition. -/
theorem y_lc {ti : TI} {g : TG} {ws is : List Nat} {m : Res (List α)} {Ss : Rps α} {Se : Rp β} {f : α → δ → Xs β δ} (obm : Obm Ob)
    (hi : ∀ F O, EvI K (fmH fm F) ti σ G (La ++ (O ++ Lb)) [] R m) (tg : Tgt K g R Ss is) (hw : ∀ i ∈ is, i ∈ ws)
    (hb : ∀ x vs G' Lb', Same G G' → Ss.r K G' vs x → EvX K fm.e0 (setL (wipe σ ws) is vs) G' La Lb' Ob v0 te Se (f x)) :
    EvX K fm σ G La Lb Ob v0 (tLc ti g tYes te ws) (rK Se) (lcBX f m) := y_lc0 obm hi tg hw hb

end
end Mw

namespace Mw
open PySem PySem.Spec PyProof.Rows L2
/-! ### try .. except C as e: any suite, told by the class that is caught -/
noncomputable def tSuG (cl : Nat → Addr) (n : Nat) (th : Addr → Addr → TS) (a : Addr) (cls : Value) (d : Option Addr) : TS := by
  classical exact if h : d = none ∧ ∃ k, k < n ∧ cls = .ref (cl k) then th a (cl h.2.choose) else tNever
theorem tSuG_eq {cl : Nat → Addr} {n : Nat} {th : Addr → Addr → TS} {a : Addr} {k : Nat} (hk : k < n) : tSuG cl n th a (.ref (cl k)) none = th a (cl k) := by
  unfold tSuG
  have h : (none : Option Addr) = none ∧ ∃ j, j < n ∧ Value.ref (cl k) = .ref (cl j) := ⟨rfl, k, hk, rfl⟩
  rw [dif_pos h]
  have e := h.2.choose_spec.2
  injection e with e
  rw [← e]
theorem tSuG_ok {X : Cx} {cl : Nat → Addr} {n : Nat} {th : Addr → Addr → TS} {sts : List Stmt} (hd : ∀ (a : Addr) (oe : Obj) (C : Addr) (pn : List (Addr × Obj)), ExcC X.K C → Zc (.ref C) none oe → (∃ vs, oe.data = .fields vs) → PSs (X.suite a ((a, oe) :: pn)) sts (th a C)) (hec : ∀ k, k < n → ExcC X.K (cl k))
    (a : Addr) (oe : Obj) (cls : Value) (d : Option Addr) (pn : List (Addr × Obj)) (hz : Zc cls d oe) (hf : ∃ vs, oe.data = .fields vs) : PSs (X.suite a ((a, oe) :: pn)) sts (tSuG cl n th a cls d) := by
  classical
  unfold tSuG
  split
  · rename_i h
    obtain ⟨hk, e⟩ := h.2.choose_spec
    obtain ⟨rfl, _⟩ := h
    exact hd a oe _ pn (hec _ hk) (by rw [← e]; exact hz) hf
  · exact pss_never
/-- by the class of what was raised -/
def errK {δ ρ : Type} (n : Nat) (f : Nat → δ → Res ρ) (c : Nat) (fs : List (Str × V)) (d : δ) : Res ρ := if c < n ∧ fs = [] then f c d else .stuck
section
variable {α β γ δ ε ρ α' : Type} {K : PySem.W.Frag} {fm : Fm} {σ : L2.St} {G G' H H' : Hp} {O O' La Lb : Own} {Ob : δ → V → Hp → Own → Prop} {v0 : V} {d : δ}
variable {te ta tb tc : TE} {R : Rp α} {S : Rp β} {T : Rp γ} {D : Ends} {tr tt tu tw : TS} {Q : ρ → Prop}
/-- isinstance(e, C) of what was caught -/
theorem e_isE {i : Nat} {a C : Addr} {c : Addr} {b : Bool} (hx : σ[i]? = some (some (.ref a))) (hk : PySem.W.kitOne K (.ref C) (.ref c) = some b) : EvE K fm (tCB (rIsE K C a) (tCons (tVar i) (tCons (tC (.ref c)) tNil))) σ G O rB (.ok b) := fun G1 H1 e k Q q =>
  ⟨_, hx, .ref _, .ref _, b, rfl, fun u e => e, hk, q (.bl b) G1 H1 (Stp.refl k.gh) rfl⟩
theorem y_callS {S : V → Rps β} {t : TA} {ma : δ → Xs β δ} {h : δ → β → Xs α δ} {Ew : L2.St → XK} (hE : Ew σ = fm.E) (ha : EvXA K fm σ G La Lb Ob v0 t (S v0) ma) : EvX K fm σ G La Lb Ob v0 (tCallS (spX K fm.cl Ob S R h) Ew t) R (callX ma h) := fun d O G1 H1 e hs ob Q q =>
  ha d O G1 H1 e hs ob _ (wpX_mono (wpX_bind q) (fun x d' q vs G2 O2 H2 e2 hs2 ob2 r => by
    show spX K fm.cl Ob S R h vs H2 Q (Ew σ)
    rw [hE]
    exact ⟨without O2 H2, G2, O2, d', v0, x, hs2.sub, ob2, r, .mk (wpX_mono q (fun y d'' q v G3 O3 H3 hs3 ob3 r3 => q v G3 O3 H3 (e2.trans hs3.g0) (hs2.back2 hs3) ob3 r3) fun c fs d'' z G3 O3 H3 dd hs3 ob3 xd => z G3 O3 H3 dd (e2.trans hs3.g0) (hs2.back2 hs3) ob3 xd)⟩) fun _ _ _ z => z)
theorem y_callPS {S : Rps β} {t : TA} {ma : δ → Xs β δ} {h : β → Res α} {Ew : L2.St → XK} (obm : Obm Ob) (hE : Ew σ = fm.E) (ha : EvXA K fm σ G La Lb Ob v0 t S ma) : EvX K fm σ G La Lb Ob v0 (tCallS (spP K fm.cl S R h) Ew t) R (mapX ma h) := fun d O G1 H1 e hs ob Q q =>
  ha d O G1 H1 e hs ob _ (wpX_mono (wpX_bind q) (fun x d' q vs G2 O2 H2 e2 hs2 ob2 r => by
    show spP K fm.cl S R h vs H2 Q (Ew σ)
    rw [hE]
    exact ⟨G2, x, hs2.gh, r, .mk (Res.wp_mono (wpX_pureC q) (fun y q v G3 H3 s r3 => q v G3 O2 H3 (e2.trans s.gg) (hs2.stp s) (obm _ _ _ _ _ s.gg ob2) r3) fun c fs z H' dd a b => z G2 O2 H' dd e2 (hs2.stp (Stp.grow hs2.gh a)) ob2 b)⟩) fun _ _ _ z => z)
theorem w_tryY {tb : WX → TS} {Wout : WX} {c : Value} {i nn : Nat} {th : Addr → Addr → TS} {mb : Xs Unit δ} {hd : Nat → δ → Res ρ} {rest : δ → Res ρ}
    (hs : Hs fm G (La ++ (O ++ Lb)) H) (ob : Ob d v0 G O) (hm : Wp (bindK mb (errK nn hd) fun _ d => rest d) Q fm.xw)
    (hex : ∀ k, k < nn → PySem.W.exmOne K (.ref (fm.cl k)) c = some true)
    (hh : ∀ k a d' G' O' H', k < nn → Same G G' → Hs fm G' (La ++ (O' ++ Lb)) H' → Ob d' v0 G' O' → Wp (hd k d') Q fm.xw → th a (fm.cl k) { nx := fun σ' H' => tr D (σ'.set i none) H', rt := D.rt, bk := fun σ' H' => D.bk (σ'.set i none) H', ct := fun σ' H' => D.ct (σ'.set i none) H' } (σ.set i (some (.ref a))) H')
    (hb : ∀ (D' : Ends) (Qb : Xr Unit × δ → Prop) (W : WX), (∀ d' G' O' H', Same G G' → Hs fm G' (La ++ (O' ++ Lb)) H' → Ob d' v0 G' O' → Qb (.ok (), d') → D'.nx σ H') → (∀ G1, Same G G1 → HX { fm with E := WE W σ } La Lb Ob v0 G1 (exX (α := Unit)) Qb) → Hs { fm with E := WE W σ } G (La ++ (O ++ Lb)) H → Wp mb Qb ({ fm with E := WE W σ } : Fm).xw → tb W D' σ H)
    (hn : ∀ d' G' O' H', Same G G' → Hs fm G' (La ++ (O' ++ Lb)) H' → Ob d' v0 G' O' → Wp (rest d') Q fm.xw → tr D σ H') : tSeq (tTry tb K c i (tSuG fm.cl nn th) Wout) tr D σ H := by
  refine hb _ (fun x => match x.1 with | .ok _ => Wp (rest x.2) Q fm.xw | .exc c fs => Wp (errK nn hd c fs x.2) Q fm.xw) _ (fun d' G' O' H' a b c q => hn d' G' O' H' a b c q) (fun G1 e1 c fs d' q G2 O2 H2 dd e2 hs2 ob2 xd => ?_) hs.withE (.mk ?_)
  · have q2 : Wp (errK nn hd c fs d') Q fm.xw := q.out
    clear q
    unfold errK at q2
    split at q2
    · rename_i hk
      obtain ⟨hk, rfl⟩ := hk
      cases (show dd = none from xd)
      refine ⟨true, hex c hk, fun _ a ha => ?_, fun z => nomatch z⟩
      rw [tSuG_eq hk]
      exact hh c a d' G2 O2 H2 hk (e1.trans e2) (hs2.withE (E' := fm.E)) ob2 q2
    · exact q2.out.elim
  · have q := wpX_K hm
    unfold wpX at q
    cases mb with
    | ok x =>
      obtain ⟨x, d⟩ := x
      cases x with
      | ok a => exact q
      | exc c fs => exact q
    | exc c fs => exact q.elim
    | stuck => exact q.elim
/-- the same without an object -/
def errG {ρ : Type} (n : Nat) (f : Nat → Res ρ) (c : Nat) (fs : List (Str × V)) : Res ρ := if c < n ∧ fs = [] then f c else .stuck
theorem w_tryG {tb : WX → TS} {Wout : WX} {c : Value} {i nn : Nat} {th : Addr → Addr → TS} {mb : Res Unit} {hd : Nat → Res ρ} {rest : Res ρ}
    (hs : Hs fm G O H) (hm : Wp (tryM mb (errG nn hd) (fun _ => rest)) Q fm.xw)
    (hex : ∀ k, k < nn → PySem.W.exmOne K (.ref (fm.cl k)) c = some true)
    (hh : ∀ k a H', k < nn → Hs fm G O H' → Wp (hd k) Q fm.xw → th a (fm.cl k) { nx := fun σ' H' => tr D (σ'.set i none) H', rt := D.rt, bk := fun σ' H' => D.bk (σ'.set i none) H', ct := fun σ' H' => D.ct (σ'.set i none) H' } (σ.set i (some (.ref a))) H')
    (hb : ∀ (D' : Ends) (Qb : Unit → Prop) (W : WX), (∀ G' H', Same G G' → Hs ⟨H, G, WE W σ, fm.cl⟩ G' [] H' → Qb () → D'.nx σ H') → Hs ⟨H, G, WE W σ, fm.cl⟩ G [] H → Wp mb Qb (Fm.xw ⟨H, G, WE W σ, fm.cl⟩) → tb W D' σ H)
    (hn : ∀ G' H', Same G G' → Hs fm G' O H' → Wp rest Q fm.xw → tr D σ H') : tSeq (tTry tb K c i (tSuG fm.cl nn th) Wout) tr D σ H := by
  refine hb _ (fun _ => Wp rest Q fm.xw) _ (fun G' H' a b q => hn G' H' a (hs.stp b.fin) q) (Hs.start hs.gh) (.mk ?_)
  have q := hm.out
  cases mb with
  | ok u => exact .mk q
  | stuck => exact q
  | exc k fs =>
    have q' : (errG nn hd k fs).wp Q fm.xw := q
    unfold errG at q'
    split at q'
    · rename_i hk
      obtain ⟨hk, rfl⟩ := hk
      intro H' d e hd'
      cases (show d = none from hd')
      refine ⟨true, hex k hk, fun _ a ha => ?_, fun z => nomatch z⟩
      rw [tSuG_eq hk]
      exact hh k a H' hk (hs.stp (Stp.grow hs.gh e)) (.mk q')
    · exact q'.elim
end
end Mw

namespace Mw
open PySem PySem.Spec PyProof.Rows L2
/-! ### a sequence of which only the length counts -/
def rSq : Rp Int := ⟨fun K G v n => ∃ p vs, v = .ref p ∧ (SqL K G p vs ∨ SqT K G p vs) ∧ n = (vs.length : Int), fun e ⟨p, vs, a, b, c⟩ => ⟨p, vs, a, b.imp (same_l e) (same_t e), c⟩⟩
section
variable {α β γ δ : Type} {K : PySem.W.Frag} {fm : Fm} {σ : L2.St} {G G' H H' : Hp} {O : Own} {te ta tb : TE} {R : Rp α}
theorem e_seqlen {C : Rp (List α)} (c : Sq K C R) {m : Res (List α)} (h : EvE K fm te σ G O C m) : EvE K fm te σ G O rSq (lenM m) := fun G1 H1 e k Q q =>
  h G1 H1 e k _ (Res.wp_mono (Res.wp_bind q) (fun xs q v G2 H2 s r => by
    obtain ⟨p, vs, ev, hq, r'⟩ := c _ _ _ r
    exact q v G2 H2 s ⟨p, vs, ev, hq, by rw [Paired.length r']⟩) fun _ _ z => z)
theorem e_lenSq {m : Res Int} (h : EvE K fm te σ G O rSq m) : EvE K fm (tCB (Mw.rLen K) (tCons te tNil)) σ G O zI (m.bind .ok) :=
  e_cb (a_one h) fun G1 H1 x vs k ⟨v, ev, r⟩ Q q => by
    subst ev
    obtain ⟨p, ws, rfl, hq, rfl⟩ := r
    refine ⟨_, ws.length, rfl, ?_, q _ G1 H1 (Stp.refl k.gh) rfl⟩
    exact hq.imp (fun h => ⟨ws, same_l k.gh h, rfl⟩) fun h => ⟨ws, same_t k.gh h, rfl⟩
end
end Mw

namespace Mw
open PySem PySem.Spec PyProof.Rows L2
/-! ### readings that neither a list's nor an instance's cell bears -/
def KpT (G G' : Hp) : Prop := ∀ b o, G b = some o → (∀ vs, o ≠ .lst vs) → (∀ C dx fs, o ≠ .ins C dx fs) → G' b = some o
def Nt {α : Type} (R : Rp α) : Prop := ∀ K G G' v x, KpT G G' → R.r K G v x → R.r K G' v x
def Nts {α : Type} (S : Rps α) : Prop := ∀ K G G' vs x, KpT G G' → S.r K G vs x → S.r K G' vs x
section
variable {α β γ δ ε : Type}
theorem nt_sc {R : Rp α} (h : Sc R) : Nt R := fun K G G' v x _ r => h _ _ _ _ _ r
theorem nt_I : Nt zI := nt_sc sc_I
theorem nt_B : Nt rB := nt_sc sc_B
theorem nt_N : Nt rN := nt_sc sc_N
theorem nt_S : Nt rS := nt_sc sc_S
theorem nt_O {R : Rp α} (h : Nt R) : Nt (rO R) := fun K G G' v o k q => by
  cases o with
  | none => exact q
  | some a => exact ⟨q.1, h K G G' v a k q.2⟩
theorem nt_sqT {K : PySem.W.Frag} {G G' : Hp} {p : Addr} {vs : List V} (k : KpT G G') (h : SqT K G p vs) : SqT K G' p vs := by
  rcases h with (h | ⟨o, h⟩) | h
  · exact .inl (.inl (k _ _ h (fun vs q => by cases q) fun C dx fs q => by cases q))
  · exact .inl (.inr ⟨o, k _ _ h (fun vs q => by cases q) fun C dx fs q => by cases q⟩)
  · exact .inr h
theorem nt_T {R : Rp α} (h : Nt R) : Nt (rT R) := fun K G G' v x k ⟨p, vs, a, b, c⟩ => ⟨p, vs, a, nt_sqT k b, Paired.mapP c fun _ _ z => h _ _ _ _ _ k z⟩
theorem nt_P {S : Rps α} (h : Nts S) : Nt (rP S) := fun K G G' v x k ⟨p, vs, a, b, c⟩ => ⟨p, vs, a, nt_sqT k b, h _ _ _ _ _ k c⟩
theorem nts1 {R : Rp α} (h : Nt R) : Nts (rs1 R) := fun K G G' vs x k ⟨v, a, b⟩ => ⟨v, a, h _ _ _ _ _ k b⟩
theorem ntsC {R : Rp α} {S : Rps β} (h : Nt R) (h' : Nts S) : Nts (rsC R S) := fun K G G' vs x k ⟨v, r, a, b, c⟩ => ⟨v, r, a, h _ _ _ _ _ k b, h' _ _ _ _ _ k c⟩
/-- lending, with what kind of cells is lent -/
def LendsT {δ ε : Type} (K : PySem.W.Frag) (Ob : δ → V → Hp → Own → Prop) (Ro : Rp ε) (ro : δ → ε) : Prop := ∀ fm d v G O O' H, Kn fm G O' H → (∀ p ∈ O, p ∈ O') → Ob d v G O → ∃ Gl, Same G Gl ∧ Same Gl H ∧ Ro.r K Gl v (ro d) ∧ ∀ b o, Gl b = some o → G b = none → (∃ vs, o = .lst vs) ∨ ∃ C dx fs, o = .ins C dx fs
/-- the ghost without what was lent -/
def unl (G Gl G2 : Hp) : Hp := fun b => if (Gl b).isSome ∧ G b = none then none else G2 b
theorem unl_stp {G Gl H1 G2 H2 : Hp} (e : Same G Gl) (eh : Same Gl H1) (s : Stp Gl H1 G2 H2) : Stp G H1 (unl G Gl G2) H2 := by
  refine ⟨s.hh, fun b o hb => ?_, fun b o hb => ?_, fun b o hb => ?_⟩
  · unfold unl
    rw [if_neg (by rw [hb]; rintro ⟨_, q⟩; cases q)]
    exact s.gg _ _ (e _ _ hb)
  · unfold unl at hb
    split at hb
    · cases hb
    · exact s.gh _ _ hb
  · unfold unl
    cases hG : G b with
    | some o' =>
      rw [if_neg (by rintro ⟨_, q⟩; cases q), s.old _ _ hb, e _ _ hG]
    | none =>
      cases hl : Gl b with
      | none => rw [if_neg (by rintro ⟨q, _⟩; cases q), s.old _ _ hb, hl]
      | some o' => rw [if_pos ⟨rfl, rfl⟩]
theorem unl_kp {G Gl H1 G2 H2 : Hp} (s : Stp Gl H1 G2 H2) (kd : ∀ b o, Gl b = some o → G b = none → (∃ vs, o = .lst vs) ∨ ∃ C dx fs, o = .ins C dx fs) : KpT G2 (unl G Gl G2) := fun b o hb h1 h2 => by
  unfold unl
  rw [if_neg]
  · exact hb
  · rintro ⟨q1, q2⟩
    obtain ⟨o', ho⟩ := Option.isSome_iff_exists.mp q1
    have := s.gg _ _ ho
    rw [hb] at this
    cases this
    rcases kd b o ho q2 with ⟨vs, q⟩ | ⟨C, dx, fs, q⟩
    · exact h1 vs q
    · exact h2 C dx fs q
variable {K : PySem.W.Frag} {fm : Fm} {σ : L2.St} {G G' H H' : Hp} {O O' La Lb : Own} {Ob : δ → V → Hp → Own → Prop} {v0 : V} {d : δ}
variable {te ta tb tc : TE} {R : Rp α} {S : Rp β} {m : Res α}
theorem e_lendT {Ro : Rp ε} {ro : δ → ε} (obm : Obm Ob) (L : LendsT K Ob Ro ro) (nt : Nt R) (ob : Ob d v0 G O) (h : ∀ G', Same G G' → Ro.r K G' v0 (ro d) → EvE K fm te σ G' (La ++ (O ++ Lb)) R m) : EvE K fm te σ G (La ++ (O ++ Lb)) R m := fun G1 H1 e k Q q => by
  obtain ⟨Gl, e3, e4, rr, kd⟩ := L fm d v0 G1 O _ H1 k (fun p hp => List.mem_append_right _ (List.mem_append_left _ hp)) (obm _ _ _ _ _ e ob)
  exact h Gl (e.trans e3) rr Gl H1 (Same.refl _) ⟨k.fr, e4, k.own⟩ Q (Res.wp_mono q (fun x q v G2 H2 s r => q v (unl G1 Gl G2) H2 (unl_stp e3 e4 s) (nt _ _ _ _ _ (unl_kp s kd) r)) fun _ _ z => z)
/-! ### t[1:] of a tuple of a fixed length -/
theorem e_slP {S : Rps β} {tl th : TO} {m : Res (α × β)} (h : EvE K fm te σ G O (rP (rsC R S)) m) (h1 : EvO fm tl σ G O (.ok (some 1))) (h2 : EvO fm th σ G O (.ok none)) : EvE K fm (tSl (rSlA K) te tl th) σ G O (rP S) (m.bind fun a => .ok a.2) := fun G1 H1 e k Q q =>
  h G1 H1 e k _ (Res.wp_mono (Res.wp_bind q) (fun x q v G2 H2 s r =>
    h1 G2 H2 (e.trans s.gg) (k.stp s) _ (show Res.wp (.ok (some (1 : Int))) _ _ from fun G3 H3 s' =>
      h2 G3 H3 ((e.trans s.gg).trans s'.gg) ((k.stp s).stp s') _ (show Res.wp (.ok (none : Option Int)) _ _ from fun G4 H4 s'' => by
        obtain ⟨p, vs, ev, hq, w, ws, rfl, rw_, rs⟩ := r
        have ss := (s.trans s').trans s''
        have rs' := S.mono (s'.gg.trans s''.gg) rs
        have hq' := same_t (s'.gg.trans s''.gg) hq
        refine ⟨p, w :: ws, ev, same_t ss.gh hq', fun hw => ?_, fun _ p' hp => q _ _ _ (ss.trans (Stp.new ss.gh hp)) ⟨p', cutV (w :: ws) (some 1) none, rfl, .inl (.inl upd_same), ?_⟩⟩
        · exfalso
          have := hw.1
          rw [show (1 : Int) = ((1 : Nat) : Int) from rfl, HT.sIx_nat, List.length_cons] at this
          omega
        · have ec : cutV (w :: ws) (some 1) none = ws := by
            unfold cutV
            rw [show (1 : Int) = ((1 : Nat) : Int) from rfl, HT.sIx_nat, HT.sIx_none, List.length_cons, Nat.min_eq_left (by omega), List.drop_one, List.tail_cons, Nat.add_sub_cancel, List.take_length]
          rw [ec]
          exact S.mono (same_new (same_back ss.gh hp)) rs'))) fun _ _ z => z)
/-- e_call, its way of calling free of the frame -/
theorem e_callH {F G0 : Hp} {E : XK} {cl : Nat → Addr} {β : Type} {S : Rps α} {T : Rp β} {f : α → Res β} {t : TA} {m : Res α} (h : EvA K ⟨F, G0, E, cl⟩ t σ G O S m) : EvE K ⟨F, G0, E, cl⟩ (tCall (spP K cl S T f) [] E t) σ G O T (m.bind f) := e_call (fm := ⟨F, G0, E, cl⟩) h
/-! ### max of two -/
def rMx2 : List V → Hp → VK → Prop := fun xs H Q => ∃ i j, xs = [.int i, .int j] ∧ Q (.int (if j > i then j else i)) H
def max2M (a b : Res Int) : Res Int := (pairM a b).bind fun p => .ok (if p.2 > p.1 then p.2 else p.1)
theorem e_max2 {a b : Res Int} (ha : EvE K fm ta σ G O zI a) (hb : EvE K fm tb σ G O zI b) : EvE K fm (tCB rMx2 (tCons ta (tCons tb tNil))) σ G O zI (max2M a b) :=
  e_cb (a_cons ha (a_one hb)) fun G1 H1 x vs k r Q q => by
    obtain ⟨v, ws, rfl, hx, u, rfl, hy⟩ := r
    cases (show v = .int x.1 from hx); cases (show u = .int x.2 from hy)
    unfold rMx2
    exact ⟨_, _, rfl, q _ G1 H1 (Stp.refl k.gh) rfl⟩
end
end Mw

namespace Mw
open PySem PySem.Spec PyProof.Rows L2
/-! ### what a def that writes an object returns: a new list -/
def spXF {α β δ : Type} (K : PySem.W.Frag) (cl : Nat → Addr) (Ob : δ → V → Hp → Own → Prop) (S : V → Rps α) (Rf : Hp → Rp β) (f : δ → α → Xs β δ) : Sp := fun vs H Q E => ∃ F G O d v0 a, Hs ⟨F, G, E, cl⟩ G O H ∧ Ob d v0 G O ∧ (S v0).r K G vs a ∧
  WpX (f d a) (fun y d' => ∀ v G' O' H', Hs ⟨F, G, E, cl⟩ G' O' H' → Ob d' v0 G' O' → (Rf F).r K G' v y → Q v H') (exitX ⟨F, G, E, cl⟩ Ob v0)
/-- the object doesn't mind that a list's cell leaves the ghost -/
def ObL {δ : Type} (Ob : δ → V → Hp → Own → Prop) : Prop := ∀ d v G G' O, KpL G G' → Ob d v G O → Ob d v G' O
def erase (G : Hp) (p : Addr) : Hp := fun b => if b = p then none else G b
theorem erase_ne {G : Hp} {p b : Addr} (h : b ≠ p) : erase G p b = G b := if_neg h
theorem erase_eq {G : Hp} {p : Addr} : erase G p p = none := if_pos rfl
theorem erase_some {G : Hp} {p b : Addr} {o : HO} (h : erase G p b = some o) : b ≠ p ∧ G b = some o := by
  by_cases e : b = p
  · rw [e, erase_eq] at h; cases h
  · exact ⟨e, by rw [erase_ne e] at h; exact h⟩
theorem erase_kp {G : Hp} {p : Addr} {vs : List V} (h : G p = some (.lst vs)) : KpL G (erase G p) := fun b o hb hn => by
  have hne : b ≠ p := fun e => by rw [e, h] at hb; cases hb; exact hn _ rfl
  rw [erase_ne hne]; exact hb
/-- a cell of the ghost becomes one's own -/
theorem Hs.take {fm : Fm} {G H : Hp} {O : Own} {p : Addr} {o : HO} (h : Hs fm G O H) (hp : G p = some o) (hF : fm.F p = none) (h0 : fm.G0 p = none) : Hs fm (erase G p) ((p, o) :: O) H := by
  refine ⟨h.fr, fun b o' hb => ?_, fun b o' hb => h.gh _ _ (erase_some hb).2, fun b o' hb => ?_, fun q hq => ?_, ?_⟩
  · have hne : b ≠ p := fun e => by rw [e, h0] at hb; cases hb
    rw [erase_ne hne]; exact h.g0 _ _ hb
  · have hne : b ≠ p := fun e => by rw [e, hF] at hb; cases hb
    rw [erase_ne hne]; exact h.old _ _ hb
  · rcases List.mem_cons.mp hq with rfl | hq
    · exact ⟨h.gh _ _ hp, erase_eq, hF⟩
    · obtain ⟨a, b, c⟩ := h.own q hq
      refine ⟨a, ?_, c⟩
      by_cases e : q.1 = p
      · rw [e, erase_eq]
      · rw [erase_ne e]; exact b
  · rw [List.map_cons, List.nodup_cons]
    refine ⟨fun hm => ?_, h.nd⟩
    obtain ⟨q, hq, e⟩ := List.mem_map.mp hm
    have := (h.own q hq).2.1
    rw [show q.1 = p from e, hp] at this
    cases this
section
variable {α β γ δ ε ρ : Type} {K : PySem.W.Frag} {fm : Fm} {σ : L2.St} {G G' H H' : Hp} {O O' La Lb : Own} {Ob : δ → V → Hp → Own → Prop} {v0 : V} {d : δ}
variable {te : TE} {R : Rp α} {D : Ends} {tr : TS} {Q : ρ → Prop} {ex : Nat → List (Str × V) → δ → Res ρ} {f : δ → Xs (List α) δ}
theorem y_pureN0 {m : Res (List α)} (obm : Obm Ob) (h : ∀ F O, EvN K (fmH fm F) te σ G (La ++ (O ++ Lb)) R m) : EvX K fm σ G La Lb Ob v0 te (rF fm.F R) (pureX fun _ => m) := fun d O G1 H1 e hs ob Q q =>
  h H1 O G1 H1 e ⟨Same.refl _, hs.gh, fun p hp => (hs.own p hp).1⟩ Q (Res.wp_mono (wpX_pureC q) (fun xs q p vs G2 H2 s hp gp hl r =>
    q (.ref p) (upd G2 p (.lst vs)) O H2 (s.gg.trans (same_new gp)) (hs.stp ⟨s.hh, s.gg.trans (same_new gp), same_updG s.gh hl, fun b o e => by rw [upd_ne (ne_of_none e hp)]; exact s.old b o e⟩)
      (obm _ _ _ _ _ (s.gg.trans (same_new gp)) ob) ⟨p, vs, rfl, same_back hs.fr hp, upd_same, r.mono (same_new gp)⟩) fun c fs z H' dd a b => z G1 O H' dd (Same.refl _) (hs.stp (Stp.grow hs.gh a)) ob b)
/-- the frame of the callee knows all that is not the object's -/
theorem frame_none {p : Addr} (hs : Hs fm G (La ++ (O ++ Lb)) H) (h : without O H p = none) (hg : G p = none ∨ True) : fm.F p = none ∧ (p ∈ O.map (·.1) ∨ H p = none) := by
  by_cases hm : p ∈ O.map (·.1)
  · obtain ⟨q, hq, rfl⟩ := List.mem_map.mp hm
    exact ⟨(hs.own q (List.mem_append_right _ (List.mem_append_left _ hq))).2.2, .inl hm⟩
  · rw [without_out hm] at h
    exact ⟨same_back hs.fr h, .inr h⟩
theorem ghost_none {p : Addr} (hs : Hs fm G (La ++ (O ++ Lb)) H) (h : without O H p = none) : G p = none := by
  rcases (frame_none hs h (.inr trivial)).2 with hm | hh
  · obtain ⟨q, hq, rfl⟩ := List.mem_map.mp hm
    exact (hs.own q (List.mem_append_right _ (List.mem_append_left _ hq))).2.1
  · exact same_back hs.gh hh
theorem y_callXF {S : V → Rps β} {t : TA} {ma : δ → Xs β δ} {h : δ → β → Xs (List α) δ} (ha : EvXA K fm σ G La Lb Ob v0 t (S v0) ma) : EvX K fm σ G La Lb Ob v0 (tCall (spXF K fm.cl Ob S (fun F => rF F R) h) [] fm.E t) (rF fm.F R) (callX ma h) := fun d O G1 H1 e hs ob Q q =>
  ha d O G1 H1 e hs ob _ (wpX_mono (wpX_bind q) (fun x d' q vs G2 O2 H2 e2 hs2 ob2 r =>
    ⟨without O2 H2, G2, O2, d', v0, x, hs2.sub, ob2, by rw [List.append_nil]; exact r, .mk (wpX_mono q (fun y d'' q v G3 O3 H3 hs3 ob3 r3 => q v G3 O3 H3 (e2.trans hs3.g0) (hs2.back2 hs3) ob3 (by
      obtain ⟨p, ws, a, b, c, dd⟩ := r3
      exact ⟨p, ws, a, (frame_none hs2 b (.inr trivial)).1, c, dd⟩)) fun c fs d'' z G3 O3 H3 dd hs3 ob3 xd => z G3 O3 H3 dd (e2.trans hs3.g0) (hs2.back2 hs3) ob3 xd)⟩) fun _ _ _ z => z)
/-- a new list, as a value -/
theorem y_FK {F : Hp} (h : EvX K fm σ G La Lb Ob v0 te (rF F R) f) : EvX K fm σ G La Lb Ob v0 te (rK R) f := fun d O G1 H1 e hs ob Q q =>
  h d O G1 H1 e hs ob Q (wpX_mono q (fun x d' q v G2 O2 H2 e2 hs2 ob2 r => q v G2 O2 H2 e2 hs2 ob2 (rF_rK r)) fun _ _ _ z => z)
theorem spXF_of {cl : Nat → Addr} {S : V → Rps β} {h : δ → β → Xs (List α) δ} (vs : List V) (H : Hp) (Q : VK) (E : XK) (q : spX K cl Ob S (rK R) h vs H Q E) : spXF K cl Ob S (fun F => rF F R) h vs H Q E := by
  obtain ⟨F, G, O, d, v0, a, hs, ob, hS, hm⟩ := q
  exact ⟨F, G, O, d, v0, a, hs, ob, hS, .mk (wpX_mono hm.out (fun y d' q v G' O' H' hs' ob' r => q v G' O' H' hs' ob' (rF_rK r)) fun _ _ _ z => z)⟩
/-- the call as one that returns some list -/
def Cal.xf {P : Program} {w : World} {mg : Str → Option Value} {base : Heap} {x : Str} {k : Nat} {ps : List Str} {cl : Nat → Addr} {S : V → Rps β} {h : δ → β → Xs (List α) δ} (C : Cal P w K mg base x k ps (spXF K cl Ob S (fun F => rF F R) h)) : Cal P w K mg base x k ps (spX K cl Ob S (rK R) h) :=
  ⟨C.f, C.fd, C.ok.imp spXF_of, C.mgx, C.kp, C.bd⟩
/-- a new list, as one's own -/
def EvXN (K : PySem.W.Frag) (fm : Fm) (σ : L2.St) (G : Hp) (La Lb : Own) (Ob : δ → V → Hp → Own → Prop) (v0 : V) (te : TE) (R : Rp α) (f : δ → Xs (List α) δ) : Prop := ∀ d O G1 H1, Same G G1 → Hs fm G1 (La ++ (O ++ Lb)) H1 → Ob d v0 G1 O → ∀ Q : VK,
  wpX (f d) (fun x d' => ∀ p vs G2 O2 H2, Same G1 G2 → Hs fm G2 ((p, .lst vs) :: (La ++ (O2 ++ Lb))) H2 → Ob d' v0 G2 O2 → RLs R K G2 vs x → Q (.ref p) H2) (ExK fm La Lb Ob v0 G1) → te σ H1 Q
theorem yN_call {S : V → Rps β} {t : TA} {ma : δ → Xs β δ} {h : δ → β → Xs (List α) δ} (ol : ObL Ob) (sl : Nl R) (ha : EvXA K fm σ G La Lb Ob v0 t (S v0) ma) : EvXN K fm σ G La Lb Ob v0 (tCall (spXF K fm.cl Ob S (fun F => rF F R) h) [] fm.E t) R (callX ma h) := fun d O G1 H1 e hs ob Q q =>
  ha d O G1 H1 e hs ob _ (wpX_mono (wpX_bind q) (fun x d' q vs G2 O2 H2 e2 hs2 ob2 r =>
    ⟨without O2 H2, G2, O2, d', v0, x, hs2.sub, ob2, by rw [List.append_nil]; exact r, .mk (wpX_mono q (fun y d'' q v G3 O3 H3 hs3 ob3 r3 => by
      obtain ⟨p, ws, rfl, b, c, dd⟩ := r3
      have h3 := hs2.back2 hs3
      have g2 : G2 p = none := ghost_none hs2 b
      have hkp := erase_kp c
      refine q p ws (erase G3 p) O3 H3 (fun a o ha => ?_) (h3.take c (frame_none hs2 b (.inr trivial)).1 (same_back (hs2.g0) g2)) (ol _ _ _ _ _ hkp ob3) (Paired.mapP dd fun _ _ z => sl _ _ _ _ _ hkp z)
      have hne : a ≠ p := fun q => by
        rw [q] at ha
        have := e2 _ _ ha
        rw [g2] at this
        cases this
      rw [erase_ne hne]
      exact hs3.g0 _ _ (e2 _ _ ha)) fun c fs d'' z G3 O3 H3 dd hs3 ob3 xd => z G3 O3 H3 dd (e2.trans hs3.g0) (hs2.back2 hs3) ob3 xd)⟩) fun _ _ _ z => z)
theorem w_asgYN {i : Nat} {mk : List α → δ → Res ρ} (he : EvXN K fm σ G La Lb Ob v0 te R f) (hs : Hs fm G (La ++ (O ++ Lb)) H) (ob : Ob d v0 G O) (hx : HX fm La Lb Ob v0 G ex Q) (hm : Wp (bindK (f d) ex mk) Q fm.xw)
    (k : ∀ x d' p vs G' O' H', Same G G' → Hs fm G' ((p, .lst vs) :: (La ++ (O' ++ Lb))) H' → Ob d' v0 G' O' → RLs R K G' vs x → Wp (mk x d') Q fm.xw → tr D (σ.set i (some (.ref p))) H') : tSeq (tAsg te (gName i)) tr D σ H :=
  he d O G H (Same.refl _) hs ob _ (wpX_mono (wpX_K hm) (fun x d' q p vs G2 O2 H2 e2 hs2 ob2 r => k x d' p vs G2 O2 H2 e2 hs2 ob2 r q) fun c fs d' z => hx c fs d' z)
end
end Mw

namespace Mw
open PySem PySem.Spec PyProof.Rows L2
/-- the result alone, the object forgotten -/
def outX {α δ : Type} (m : Xs α δ) : Res α := bindK m (fun c fs _ => .exc c fs) fun r _ => .ok r
theorem outX_ok {α δ : Type} (a : α) (d : δ) : outX (.ok (.ok a, d) : Xs α δ) = .ok a := rfl
section
variable {α β γ δ : Type} {K : PySem.W.Frag} {fm : Fm} {σ : L2.St} {G : Hp} {O : Own} {R : Rp α}
/-- f(C(..), ..): an object that nobody holds -/
theorem e_callMk {C : Addr} {Ob : δ → V → Hp → Own → Prop} {Si : Rps β} {S : Rps γ} {ti t : TA} {f : β → Res δ} {h : δ → γ → Xs α δ} {mi : Res β} {m : Res γ} (obm : Obm Ob) (hi : EvA K fm ti σ G O Si mi) (ha : EvA K fm t σ G O S m) :
    EvE K fm (tCall (spX K fm.cl Ob (fun v0 => rsV v0 S) R h) [] fm.E (tCons (tMake C (spI K fm.cl C Ob Si f) [] fm.E ti) t)) σ G O R ((mi.bind f).bind fun d => m.bind fun a => outX (h d a)) := fun G1 H1 e k Q q =>
  hi G1 H1 e k _ (Res.wp_mono (Res.wp_bind (Res.wp_bind q)) (fun c q vs G2 H2 s r => by
    intro x dx hx hdx hne
    have hs2 : Hs ⟨H2, G2, fm.E, fm.cl⟩ G2 [] H2 := Hs.start s.gh
    have s1 := Stp.new (o := HO.own x) s.gh hdx
    have hs3 := hs2.stp s1
    have hx3 : upd H2 dx (HO.own x) x = none := by rw [upd_ne (fun e => hne e.symm)]; exact hx
    have hs4 := hs3.new (p := x) (o := .ins C dx []) (Stp.grow hs3.gh (same_new hx3)) hx3 (same_back hs3.gh hx3) upd_same
    have hs5 : Hs ⟨H2, G2, fm.E, fm.cl⟩ (upd G2 dx (.own x)) ([] ++ ([(x, .ins C dx [])] ++ [])) _ := hs4
    have fr2 : Same fm.F H2 := k.fr.trans s.hh
    have xw2 : ∀ cc fs, fm.xw cc fs → Fm.xw ⟨H2, G2, fm.E, fm.cl⟩ cc fs := fun cc fs z H' dd a b => z H' dd (fr2.trans a) b
    refine ⟨_, _, x, dx, vs, c, by rw [List.append_nil], hs5.sub, Si.mono s1.gg r, .mk (Res.wp_mono (m := f c) q (fun d q G' O' H' hh ob => ⟨rfl, ?_⟩) fun cc fs z => xw_sub (fm := ⟨H2, G2, fm.E, fm.cl⟩) hs5 (xw2 _ _ z))⟩
    have h6 : Hs ⟨H2, G2, fm.E, fm.cl⟩ G' ([] ++ (O' ++ [])) H' := hs5.back2 hh
    have gg6 : Same G1 G' := s.gg.trans h6.g0
    have k6 : Kn fm G' O H' := ⟨fr2.trans h6.fr, h6.gh, fun p hp => h6.fr _ _ (s.hh _ _ (k.own p hp))⟩
    refine ha G' H' (e.trans gg6) k6 _ (Res.wp_mono (Res.wp_bind q) (fun a q ws G7 H7 s7 r7 => ?_) fun _ _ z => z)
    have h7 := h6.stp s7
    have ob7 := obm _ _ _ _ _ s7.gg ob
    have q : (outX (h d a)).wp _ _ := q
    refine ⟨_, _, O', d, .ref x, a, h7.sub, ob7, ⟨ws, by rw [List.append_nil], r7⟩, .mk ?_⟩
    unfold wpX
    unfold outX bindK at q
    cases hm : h d a with
    | ok y =>
      rw [hm] at q
      obtain ⟨y, d2⟩ := y
      cases y with
      | ok y =>
        intro v G8 O8 H8 h8 ob8 r8
        have h9 : Hs ⟨H2, G2, fm.E, fm.cl⟩ G8 ([] ++ (O8 ++ [])) H8 := h7.back2 h8
        exact q v G8 H8 ⟨s.hh.trans h9.fr, s.gg.trans h9.g0, h9.gh, fun b o hb => (h9.old _ _ (s.hh _ _ hb)).trans (s.old _ _ hb)⟩ r8
      | exc cc fs =>
        intro G8 O8 H8 dd h8 ob8 xd
        have h9 : Hs ⟨H2, G2, fm.E, fm.cl⟩ G8 ([] ++ (O8 ++ [])) H8 := h7.back2 h8
        exact q H8 dd (fr2.trans h9.fr) xd
    | exc cc fs => rw [hm] at q; exact q.elim
    | stuck => rw [hm] at q; exact q.elim) fun _ _ z => z)
end
end Mw

/-! Texts, dicts that are handed on, dict comprehensions -/
namespace Mw
open PySem PySem.Spec PyProof.Rows L2
theorem sw_trueD {kx vx : Expr} {gs : List Comprehension} {scope : Scope} {pos py : Pos} {y : Str} {l : Nat} {env : Env}
    (hk : env.scope.kind = ScopeKind.function) (hl : List.lookup y env.scope.names = some NameKind.local) (hp : (py.line == pos.line) = true)
    (hn : (scope.names.any fun x => match x with | (n, k) => n == y && (k == NameKind.local || k == NameKind.cell)) = false) :
    swapsWith (kx.DictComp vx gs scope pos) (some (Expr.Name y py)) l env = pure true := by
  have := sw_true (elt := kx) (gs := gs) (scope := scope) (pos := pos) (py := py) (y := y) (l := l) (env := env) hk hl hp hn
  exact this
theorem ps_setDc {X : L2.Cx} {i : Nat} {y : Str} {py : Pos} {kx vx tg iter : Expr} {ifs : List Expr}
  {scope : Scope} {own : List (Str × Nat)} {pos spos : Pos} {wi : L2.TI} {g : L2.TG} {tt : L2.TT} {tk tv : L2.TE}
  (hc : X.calm = true) (hN : X.N.Nodup) (hy : X.N[i]? = some y) (hyl : List.lookup y X.env.scope.names = some NameKind.local)
  (hsw : swapsWith (kx.DictComp vx [{ target := tg, iter := iter, ifs := ifs, is_async := 0 }] scope pos) (some (Expr.Name y py)) spos.line X.env = pure true)
  (hi : L2.PI X tg iter wi) (ok : L2.BlkOk X.N X.env.scope scope own)
  (hg : ∀ (s : Shared) (H : L2.Hp) (C : Addr) (cl : List (Str × Addr)) (fp : List Addr), L2.PG (X.blk s H scope (compEnvC scope cl C X.env) fp) tg g)
  (ht : ∀ (s : Shared) (H : L2.Hp) (C : Addr) (cl : List (Str × Addr)) (fp : List Addr), L2.PTs (X.blk s H scope (compEnvC scope cl C X.env) fp) ifs tt)
  (hk : ∀ (s : Shared) (H : L2.Hp) (C : Addr) (cl : List (Str × Addr)) (fp : List Addr), L2.PE (X.blk s H scope (compEnvC scope cl C X.env) fp) kx tk)
  (he : ∀ (s : Shared) (H : L2.Hp) (C : Addr) (cl : List (Str × Addr)) (fp : List Addr), L2.PE (X.blk s H scope (compEnvC scope cl C X.env) fp) vx tv)
  (hs : ∀ (x : Value), foldedSetIterable iter X.env x = pure x := by exact fun _ => rfl) :
  L2.PS X (Stmt.Assign [Expr.Name y py] (kx.DictComp vx [{ target := tg, iter := iter, ifs := ifs, is_async := 0 }] scope pos) spos)
    (L2.tAsg (L2.tDc wi g tt tk tv (List.map (fun x => x.snd) own)) (L2.gName i)) :=
  { run := fun pins s σ H D I h => by
      rw [exec_Assign_Name_used y py (kx.DictComp vx [{ target := tg, iter := iter, ifs := ifs, is_async := 0 }] scope pos) spos hsw]
      refine wpAny_bind (wpAny_standAt (wpAny_bind ?_))
      refine wpAny_bind (L2.thn (L2.dc_core (Qf := fun _ s' => L2.SP X pins D Flow.next s') hc hN I hi ok hg ht hk he hs h fun L C s' m H' I' q hn f => ?_) fun x s' hq => ?_)
      · refine wpAny_assign_Name (L2.store_ok2 (v := L2.V.ref L) I' hN hy (Or.inl hyl) rfl (fun s2 I2 x => ?_) (Or.inr hyl))
        obtain ⟨a, sb, ha⟩ := x
        obtain ⟨f0, f1, f2, f3, f4, f5⟩ := f
        have haC : C ≠ a := by
          rcases ha with z | z
          · rw [z]; exact f1
          · exact fun e => f4 y a z e.symm
        exact ⟨m, hn.sameBut sb haC, fun h3 sb3 => ⟨σ.set i (some (L2.V.ref L)), H', L2.Inv.turned I2 (fun b o hb e => (sb3.right b hb).trans e) f0 f1 f3 f4 f5, q⟩⟩
      · exact wpAny_pure (wpAny_pure hq) }
section
variable {α β γ δ ρ κ : Type} [DecidableEq κ] {K : PySem.W.Frag} {fm : Fm} {σ : L2.St} {G G' H H' : Hp} {O : Own}
variable {te ta tb tc : TE} {R : Rp α} {S : Rp β} {T : Rp γ} {m : Res α} {n : Res β}
variable {D : Ends} {tr tt tu tw : TS} {Q : ρ → Prop}
/-! ### dict comprehensions: a new dict of one's own -/
def dcM {α κ β : Type} [DecidableEq κ] (kf : α → Res κ) (vf : α → Res β) : List (κ × β) → List α → Res (List (κ × β))
  | ys, [] => .ok ys
  | ys, x :: xs => (kf x).nox.bind fun y => (vf x).nox.bind fun z => dcM kf vf (dput ys y z) xs
def dcB {α κ β : Type} [DecidableEq κ] (kf : α → Res κ) (vf : α → Res β) (m : Res (List α)) : Res (List (κ × β)) := m.bind fun xs => if xs.length < lim then dcM kf vf [] xs else .stuck
def EvDN (K : PySem.W.Frag) (fm : Fm) (te : TE) (σ : L2.St) (G : Hp) (O : Own) (k : Ke κ) (R : Rp β) (m : Res (List (κ × β))) : Prop :=
  ∀ G1 H1, Same G G1 → Kn fm G1 O H1 → ∀ Q : VK, m.wp (fun xs => ∀ p vs G2 H2, Stp G1 H1 G2 H2 → H1 p = none → G2 p = none → H2 p = some (.dK vs) → RKs k R K G2 vs xs → Q (.ref p) H2) fm.xw → te σ H1 Q
theorem dput_len (xs : List (κ × β)) (k : κ) (v : β) : (dput xs k v).length ≤ xs.length + 1 := by
  unfold dput
  split
  · rw [List.length_map]; omega
  · rw [List.length_append]; simp
theorem n_dc {Oi : Own} {ti : TI} {g : TG} {tk tv : TE} {ws is : List Nat} {m : Res (List α)} {Ss : Rps α} {k : Ke κ} {kf : α → Res κ} {vf : α → Res β}
    (hi : EvI K fm ti σ G O Oi R m) (hO : ∀ p ∈ Oi, p ∈ O) (tg : Tgt K g R Ss is) (hw : ∀ i ∈ is, i ∈ ws)
    (hb : ∀ x vs G', Same G G' → Ss.r K G' vs x → EvE K fm.e0 tk (setL (wipe σ ws) is vs) G' O k.rp (kf x) ∧ EvE K fm.e0 tv (setL (wipe σ ws) is vs) G' O S (vf x)) :
    EvDN K fm (tDc ti g tYes tk tv ws) σ G O k S (dcB kf vf m) := fun G1 H1 e kn Q q =>
  hi G1 H1 e kn _ (Res.wp_mono (Res.wp_bind q) (fun xs q J G2 H2 s it Dl hD => by
    by_cases hl : xs.length < lim
    · rw [if_pos hl] at q
      have kD : Kn fm G2 O (upd H2 Dl (.dK [])) := (kn.stp s).stp (Stp.grow s.gh (same_new hD))
      have gD : G2 Dl = none := same_back s.gh hD
      refine ⟨fun i mm H => mm = xs.length - i ∧ i ≤ xs.length ∧ ∃ (G3 : Hp) (acc : List (Key × V)) (ys : List (κ × β)), Same G2 G3 ∧ Stp G2 H2 G3 H ∧ Kn fm G3 O H ∧ G3 Dl = none ∧ H Dl = some (.dK acc) ∧ acc.length ≤ i ∧ RKs k S K G3 acc ys ∧
          (dcM kf vf ys (xs.drop i)).wp (fun zs => ∀ (q : Addr) vs G4 H4, Stp G1 H1 G4 H4 → H1 q = none → G4 q = none → H4 q = some (.dK vs) → RKs k S K G4 vs zs → Q (.ref q) H4) fm.xw,
        ⟨xs.length, by simp, Nat.zero_le _, G2, [], [], Same.refl _, Stp.grow s.gh (same_new hD), kD, gD, upd_same, Nat.le_refl _, .nil, q⟩, ?_⟩
      rintro i mm H ⟨rfl, hle, G3, acc, ys, g3, s3, k3, d3, hd3, hacc, racc, q3⟩
      by_cases hlt : i < xs.length
      · refine .inr ⟨it.go i G3 H g3 k3.gh (fun p hp => k3.own p (hO p hp)) hlt, _, fun H' z => ⟨xs.length - (i + 1), by omega, z⟩, fun v H' y => ?_⟩
        obtain ⟨x, G4, hx, s4, rx⟩ := it.yld i G3 H v H' g3 k3.gh (fun p hp => k3.own p (hO p hp)) hlt y
        have hdrop : xs.drop i = x :: xs.drop (i + 1) := by
          obtain ⟨h1, h2⟩ := List.getElem?_eq_some_iff.mp hx
          rw [List.drop_eq_getElem_cons h1, h2]
        rw [hdrop] at q3
        refine tg G4 H' v x _ _ s4.gh rx fun vs rvs => ⟨by rw [wipe_setL hw, wipe_wipe fun i h => h], ?_⟩
        obtain ⟨ht, he⟩ := hb x vs G4 ((e.trans s.gg).trans (g3.trans s4.gg)) rvs
        have k4 : Kn fm G4 O H' := k3.stp s4
        have hd4 : H' Dl = some (.dK acc) := s4.hh _ _ hd3
        have gd4 : G4 Dl = none := by rw [s4.old Dl _ hd3]; exact d3
        unfold tYes
        dsimp only
        rw [if_pos rfl]
        refine ht G4 H' (Same.refl _) k4.e0 _ (Res.wp_mono (Res.wp_nox (Res.wp_bind q3)) (fun b q5 w G5 H5 s5 r5 => ?_) fun _ _ z => z)
        have hd5 : H5 Dl = some (.dK acc) := s5.hh _ _ hd4
        have gd5 : G5 Dl = none := by rw [s5.old Dl _ hd4]; exact gd4
        refine he G5 H5 s5.gg (k4.stp s5).e0 _ (Res.wp_mono (Res.wp_nox (Res.wp_bind q5)) (fun y q6 v' G6 H6 s6 r6 => ?_) fun _ _ z => z)
        have hd6 : H6 Dl = some (.dK acc) := s6.hh _ _ hd5
        have gd6 : G6 Dl = none := by rw [s6.old Dl _ hd5]; exact gd5
        have sAll : Stp G2 H2 G6 H6 := s3.trans ((s4.trans s5).trans s6)
        have hacc' : (putK acc (k.enc b) v').length ≤ i + 1 := by
          unfold putK
          split
          · rw [List.length_map]; omega
          · rw [List.length_append]; simp; omega
        refine ⟨acc, k.enc b, k.is.mp r5, hd6, by rw [← lim_eq]; omega, rfl, hlt, G6, putK acc (k.enc b) v', dput ys b y, g3.trans ((s4.gg.trans s5.gg).trans s6.gg), ?_, ?_, gd6, upd_same, hacc', (racc.mono ((s4.gg.trans s5.gg).trans s6.gg)).put b r6, ?_⟩
        · exact ⟨same_mut sAll.hh hD, sAll.gg, same_mut sAll.gh gd6, sAll.old⟩
        · have k6 := (k4.stp s5).stp s6
          refine ⟨fun b o h => ?_, same_mut k6.gh gd6, fun p hp => ?_⟩
          · have := k6.fr b o h
            rw [upd_ne]
            · exact this
            · intro eb; subst eb
              have z := (kn.stp s).fr _ _ h
              rw [hD] at z; cases z
          · rw [upd_ne]
            · exact k6.own p hp
            · intro eb
              have z := (kn.stp s).own p hp
              rw [eb, hD] at z; cases z
        · exact q6
      · have ei : i = xs.length := by omega
        subst ei
        rw [List.drop_length] at q3
        exact .inl ⟨it.stop G3 H g3 k3.gh (fun p hp => k3.own p (hO p hp)), q3 Dl acc G3 H (s.trans s3) (same_back s.hh hD) d3 hd3 racc⟩
    · rw [if_neg hl] at q; exact q.elim) fun _ _ z => z)
theorem w_asgDN {i : Nat} {k : Ke κ} {R : Rp β} {m : Res (List (κ × β))} {mk : List (κ × β) → Res ρ} (he : EvDN K fm te σ G O k R m) (hs : Hs fm G O H) (hm : Wp (m.bind mk) Q fm.xw)
    (kk : ∀ xs p vs G' H', Same G G' → Hs fm G' ((p, .dK vs) :: O) H' → RKs k R K G' vs xs → Wp (mk xs) Q fm.xw → tr D (σ.set i (some (.ref p))) H') : tSeq (tAsg te (gName i)) tr D σ H :=
  he G H (Same.refl _) hs.kn _ (Res.wp_mono (Res.wp_bind hm.out) (fun xs q p vs G2 H2 s hp gp hl r => kk xs p vs G2 H2 s.gg (hs.new s hp gp hl) r (.mk q)) fun _ _ z => z)
end
end Mw

/-! Dicts that are read, texts, values of one of two kinds -/
namespace Mw
open PySem PySem.Spec PyProof.Rows L2
section
variable {α β γ δ ρ κ : Type} [DecidableEq κ] {K : PySem.W.Frag} {fm : Fm} {σ : L2.St} {G G' H H' : Hp} {O : Own}
variable {te ta tb tc td : TE} {R : Rp α} {S : Rp β} {T : Rp γ} {m : Res α} {n : Res β}
/-! ### a dict that is only read -/
def rDk (k : Ke κ) (R : Rp β) : Rp (List (κ × β)) := ⟨fun K G v xs => ∃ l vs, v = .ref l ∧ G l = some (.dK vs) ∧ RKs k R K G vs xs, fun e ⟨l, vs, h1, h2, h3⟩ => ⟨l, vs, h1, e l _ h2, RKs.mono e h3⟩⟩
theorem e_dgetG {k : Ke κ} {m : Res (List (κ × β))} {n : Res κ} (hd : EvE K fm td σ G O (rDk k S) m) (hi : EvE K fm ta σ G O k.rp n) :
    EvE K fm (tDGet td ta) σ G O S (m.bind fun xs => dgetM xs n) := fun G1 H1 e kn Q q =>
  hd G1 H1 e kn _ (Res.wp_mono (Res.wp_bind q) (fun xs q v G2 H2 s r => hi G2 H2 (e.trans s.gg) (kn.stp s) _ (Res.wp_mono (Res.wp_bind q) (fun y q w G3 H3 s' rv => by
    obtain ⟨l, vs, rfl, hl, rr⟩ := r
    rw [k.is.mp rv]
    have g := rr.get y
    cases eg : dget xs y with
    | none => rw [eg] at q; exact q.elim
    | some b =>
      rw [eg] at q g
      obtain ⟨u, hu, ru⟩ := g
      exact ⟨l, u, rfl, .inl ⟨vs, k.enc y, .inl (s'.gh _ _ (s'.gg _ _ hl)), rfl, hu.symm⟩, q u G3 H3 (s.trans s') (S.mono s'.gg ru)⟩) fun _ _ z => z)) fun _ _ z => z)
theorem e_dinG {k : Ke κ} {m : Res (List (κ × β))} {n : Res κ} (hd : EvE K fm td σ G O (rDk k S) m) (hi : EvE K fm ta σ G O k.rp n) :
    EvE K fm (tDIn ta td) σ G O rB (n.bind fun y => m.bind fun xs => .ok (dget xs y).isSome) := fun G1 H1 e kn Q q =>
  hi G1 H1 e kn _ (Res.wp_mono (Res.wp_bind q) (fun y q v G2 H2 s rv => hd G2 H2 (e.trans s.gg) (kn.stp s) _ (Res.wp_mono (Res.wp_bind q) (fun xs q w G3 H3 s' r => by
    obtain ⟨l, vs, rfl, hl, rr⟩ := r
    exact ⟨l, valV vs (k.enc y), rfl, .inl ⟨vs, k.enc y, .inl (s'.gh _ _ hl), k.is.mp rv, rfl⟩, q _ G3 H3 (s.trans s') (by show V.bl _ = V.bl _; rw [rr.isSome])⟩) fun _ _ z => z)) fun _ _ z => z)
theorem e_dninG {k : Ke κ} {m : Res (List (κ × β))} {n : Res κ} (hd : EvE K fm td σ G O (rDk k S) m) (hi : EvE K fm ta σ G O k.rp n) :
    EvE K fm (tDNotIn ta td) σ G O rB (notM (n.bind fun y => m.bind fun xs => .ok (dget xs y).isSome)) := fun G1 H1 e kn Q q =>
  hi G1 H1 e kn _ (Res.wp_mono (Res.wp_bind (Res.wp_bind q)) (fun y q v G2 H2 s rv => hd G2 H2 (e.trans s.gg) (kn.stp s) _ (Res.wp_mono (Res.wp_bind q) (fun xs q w G3 H3 s' r => by
    obtain ⟨l, vs, rfl, hl, rr⟩ := r
    exact ⟨l, valV vs (k.enc y), rfl, .inl ⟨vs, k.enc y, .inl (s'.gh _ _ hl), k.is.mp rv, rfl⟩, q _ G3 H3 (s.trans s') (by show V.bl _ = V.bl _; rw [rr.isSome])⟩) fun _ _ z => z)) fun _ _ z => z)
/-! ### texts -/
def rAddS : R2 := fun x y H Q => ∃ i j, x = L2.V.str i ∧ y = L2.V.str j ∧ i.length + j.length ≤ sizeLine ∧ Q (L2.V.str (i ++ j)) H
def addSM (a b : Res Str) : Res Str := Res.bind2 (fun x y => if x.length + y.length ≤ lim then .ok (x ++ y) else .stuck) a b
theorem e_addS {a b : Res Str} (ha : EvE K fm ta σ G O rS a) (hb : EvE K fm tb σ G O rS b) : EvE K fm (tOp rAddS ta tb) σ G O rS (addSM a b) :=
  e_op ha hb fun G1 H1 x y u v k ru rv Q q => by
    by_cases h : x.length + y.length ≤ lim
    · rw [if_pos h] at q
      exact ⟨x, y, ru, rv, by rw [← lim_eq]; exact h, q _ G1 H1 (Stp.refl k.gh) rfl⟩
    · rw [if_neg h] at q; exact q.elim
def strI (i : Int) : Str := Str.ofString (toString i)
def strIM (a : Res Int) : Res Str := a.bind fun i => if i.natAbs.log2 < 1920 then .ok (strI i) else .stuck
def rStrI : List V → Hp → VK → Prop := fun xs H Q => ∃ i, xs = [L2.V.int i] ∧ i.natAbs.log2 < 1920 ∧ Q (L2.V.str (Str.ofString (toString i))) H
theorem e_strI {a : Res Int} (ha : EvE K fm ta σ G O zI a) : EvE K fm (tCB rStrI (tCons ta tNil)) σ G O rS (strIM a) :=
  e_cb (a_one ha) fun G1 H1 x vs k r Q q => by
    obtain ⟨u, rfl, hx⟩ := r
    cases (show u = .int x from hx)
    by_cases h : x.natAbs.log2 < 1920
    · rw [if_pos h] at q
      exact ⟨x, rfl, h, q _ G1 H1 (Stp.refl k.gh) rfl⟩
    · rw [if_neg h] at q; exact q.elim
def ixSM (a : Res Str) (b : Res Int) : Res Str := Res.bind2 (fun x i => if x.length ≤ lim then (match atI x.cps.toList i with | some c => .ok ⟨#[c]⟩ | none => .stuck) else .stuck) a b
theorem e_ixS {a : Res Str} {b : Res Int} (ha : EvE K fm ta σ G O rS a) (hb : EvE K fm tb σ G O zI b) : EvE K fm (tOp rIxS ta tb) σ G O rS (ixSM a b) :=
  e_op ha hb fun G1 H1 x y u v k ru rv Q q => by
    by_cases h : x.length ≤ lim
    · rw [if_pos h] at q
      cases e : atI x.cps.toList y with
      | none => rw [e] at q; exact q.elim
      | some c =>
        rw [e] at q
        exact ⟨x, y, c, ru, rv, by rw [← lim_eq]; exact h, e, q _ G1 H1 (Stp.refl k.gh) rfl⟩
    · rw [if_neg h] at q; exact q.elim
/-! f'..' -/
def EvJ (K : PySem.W.Frag) (fm : Fm) (ts : List TE) (σ : L2.St) (G : Hp) (O : Own) (f : Str → Res Str) : Prop :=
  ∀ acc G1 H1, Same G G1 → Kn fm G1 O H1 → ∀ Q : Str → Hp → Prop, (f acc).wp (fun z => ∀ G2 H2, Stp G1 H1 G2 H2 → Q z H2) fm.xw → tJs ts acc σ H1 Q
theorem j_nil : EvJ K fm [] σ G O fun acc => .ok acc := fun acc G1 H1 e k Q q => q G1 H1 (Stp.refl k.gh)
theorem j_cons {a : Res Str} {ts : List TE} {f : Str → Res Str} (ha : EvE K fm ta σ G O rS a) (ht : EvJ K fm ts σ G O f) : EvJ K fm (ta :: ts) σ G O fun acc => a.bind fun y => if (acc ++ y).length ≤ lim then f (acc ++ y) else .stuck := fun acc G1 H1 e k Q q =>
  ha G1 H1 e k _ (Res.wp_mono (Res.wp_bind q) (fun y q v G2 H2 s r => by
    by_cases h : (acc ++ y).length ≤ lim
    · rw [if_pos h] at q
      exact ⟨y, r, by rw [← lim_eq]; exact h, ht (acc ++ y) G2 H2 (e.trans s.gg) (k.stp s) Q (Res.wp_mono q (fun z q G3 H3 s' => q G3 H3 (s.trans s')) fun _ _ z => z)⟩
    · rw [if_neg h] at q; exact q.elim) fun _ _ z => z)
def tJoin (ts : List TE) : TE := fun σ H Q => tJs ts Str.empty σ H fun out H1 => Q (L2.V.str out) H1
theorem e_joined {ts : List TE} {f : Str → Res Str} (h : EvJ K fm ts σ G O f) : EvE K fm (tJoin ts) σ G O rS (f Str.empty) := fun G1 H1 e k Q q =>
  h Str.empty G1 H1 e k _ (Res.wp_mono q (fun z q G2 H2 s => q _ G2 H2 s rfl) fun _ _ z => z)
theorem e_fmtI {a : Res Int} (ha : EvE K fm ta σ G O zI a) : EvE K fm (tFmt ta) σ G O rS (strIM a) := fun G1 H1 e k Q q =>
  ha G1 H1 e k _ (Res.wp_mono (Res.wp_bind q) (fun x q v G2 H2 s r => by
    cases (show v = .int x from r)
    by_cases h : x.natAbs.log2 < 1920
    · rw [if_pos h] at q
      exact .inr ⟨x, rfl, h, q _ G2 H2 s rfl⟩
    · rw [if_neg h] at q; exact q.elim) fun _ _ z => z)
/-! min -/
def rMn2 : List V → Hp → VK → Prop := fun xs H Q => ∃ i j, xs = [L2.V.int i, L2.V.int j] ∧ Q (L2.V.int (if j < i then j else i)) H
def min2M (a b : Res Int) : Res Int := (pairM a b).bind fun p => .ok (if p.2 < p.1 then p.2 else p.1)
theorem e_min2 {a b : Res Int} (ha : EvE K fm ta σ G O zI a) (hb : EvE K fm tb σ G O zI b) : EvE K fm (tCB rMn2 (tCons ta (tCons tb tNil))) σ G O zI (min2M a b) :=
  e_cb (a_cons ha (a_one hb)) fun G1 H1 x vs k r Q q => by
    obtain ⟨v, ws, rfl, hx, u, rfl, hy⟩ := r
    cases (show v = .int x.1 from hx); cases (show u = .int x.2 from hy)
    exact ⟨_, _, rfl, q _ G1 H1 (Stp.refl k.gh) rfl⟩
theorem nuMin2_int (a b : Int) : nuMin2 (.int a) (.int b) = some (.int (if b < a then b else a)) := by
  by_cases h : b < a
  · rw [if_pos h]
    have : nuLt (.int b) (.int a) = some true := by
      have : nuLt (.int b) (.int a) = some (decide (b < a)) := rfl
      rw [this, decide_eq_true h]
    unfold nuMin2; rw [this]; rfl
  · rw [if_neg h]
    have : nuLt (.int b) (.int a) = some false := by
      have : nuLt (.int b) (.int a) = some (decide (b < a)) := rfl
      rw [this, decide_eq_false h]
    unfold nuMin2; rw [this]; rfl
def mn2 (a b : Int) : Int := if b < a then b else a
def min3M (a b c : Res Int) : Res Int := (pairM a (pairM b c)).bind fun p => .ok (mn2 (mn2 p.1 p.2.1) p.2.2)
theorem e_min3 {a b c : Res Int} (ha : EvE K fm ta σ G O zI a) (hb : EvE K fm tb σ G O zI b) (hc : EvE K fm tc σ G O zI c) : EvE K fm (tCB (rNuC3 nuMin3) (tCons ta (tCons tb (tCons tc tNil)))) σ G O zI (min3M a b c) :=
  e_cb (a_cons ha (a_cons hb (a_one hc))) fun G1 H1 x vs k r Q q => by
    obtain ⟨v, ws, rfl, hx, u, ws2, rfl, hy, w, rfl, hz⟩ := r
    cases (show v = .int x.1 from hx); cases (show u = .int x.2.1 from hy); cases (show w = .int x.2.2 from hz)
    refine ⟨_, _, _, _, rfl, ?_, q (.int (mn2 (mn2 x.1 x.2.1) x.2.2)) G1 H1 (Stp.refl k.gh) rfl⟩
    unfold nuMin3
    rw [nuMin2_int]
    show nuMin2 _ _ = _
    rw [nuMin2_int]
    rfl
/-! ### a value of one of two kinds -/
def rU (A : Rp α) (B : Rp β) : Rp (Sum α β) := ⟨fun K G v x => match x with | .inl a => A.r K G v a | .inr b => B.r K G v b, fun {K G G' v x} e h => by
  cases x with
  | inl a => exact A.mono e h
  | inr b => exact B.mono e h⟩
def inlM {α β : Type} (m : Res α) : Res (Sum α β) := m.bind fun a => .ok (.inl a)
def inrM {α β : Type} (m : Res β) : Res (Sum α β) := m.bind fun a => .ok (.inr a)
def getlM {α β : Type} (m : Res (Sum α β)) : Res α := m.bind fun x => match x with | .inl a => .ok a | .inr _ => .stuck
def getrM {α β : Type} (m : Res (Sum α β)) : Res β := m.bind fun x => match x with | .inr a => .ok a | .inl _ => .stuck
theorem e_inl (h : EvE K fm te σ G O R m) : EvE K fm te σ G O (rU R S) (inlM m) := fun G1 H1 e k Q q =>
  h G1 H1 e k Q (Res.wp_mono (Res.wp_bind q) (fun x f v G2 H2 s r => f v G2 H2 s r) fun _ _ z => z)
theorem e_inr (h : EvE K fm te σ G O S n) : EvE K fm te σ G O (rU R S) (inrM n) := fun G1 H1 e k Q q =>
  h G1 H1 e k Q (Res.wp_mono (Res.wp_bind q) (fun x f v G2 H2 s r => f v G2 H2 s r) fun _ _ z => z)
theorem e_getl {m : Res (Sum α β)} (h : EvE K fm te σ G O (rU R S) m) : EvE K fm te σ G O R (getlM m) := fun G1 H1 e k Q q =>
  h G1 H1 e k Q (Res.wp_mono (Res.wp_bind q) (fun x f v G2 H2 s r => by
    cases x with
    | inl a => exact (show ∀ v G2 H2, Stp G1 H1 G2 H2 → R.r K G2 v a → Q v H2 from f) v G2 H2 s r
    | inr b => exact f.elim) fun _ _ z => z)
theorem e_getr {m : Res (Sum α β)} (h : EvE K fm te σ G O (rU R S) m) : EvE K fm te σ G O S (getrM m) := fun G1 H1 e k Q q =>
  h G1 H1 e k Q (Res.wp_mono (Res.wp_bind q) (fun x f v G2 H2 s r => by
    cases x with
    | inl a => exact f.elim
    | inr b => exact (show ∀ v G2 H2, Stp G1 H1 G2 H2 → S.r K G2 v b → Q v H2 from f) v G2 H2 s r) fun _ _ z => z)
end
end Mw

/-! tuples of which only the length counts -/
namespace Mw
open PySem PySem.Spec PyProof.Rows L2
section
variable {α β γ δ : Type} {K : PySem.W.Frag} {fm : Fm} {σ : L2.St} {G G' H H' : Hp} {O : Own} {te ta tb : TE} {R : Rp α} {S : Rp β} {T : Rp γ}
/-! ### == of nested data that may hold texts: both sides are to be good ones -/
structure Qe {α : Type} [DecidableEq α] (R : Rp α) where
  dat : α → PyData
  ok : α → Bool
  dp : ∀ {K G v x}, R.r K G v x → Dp K G v (dat x)
  lay : ∀ x, ok x = true → (dat x).canLay0 = true
  dep : Nat
  dle : ∀ x, (dat x).depth ≤ dep
  eqv : ∀ x y, PyData.eqv (dat x) (dat y) = decide (x = y)
structure Qes {α : Type} [DecidableEq α] (R : Rps α) where
  dat : α → List PyData
  ok : α → Bool
  dp : ∀ {K G v x}, R.r K G v x → DpAll K G v (dat x)
  lay : ∀ x, ok x = true → PyData.canLayAll0 (dat x) = true
  dep : Nat
  dle : ∀ x, PyData.depthAll (dat x) ≤ dep
  eqv : ∀ x y, PyData.eqvAll (dat x) (dat y) = decide (x = y)
@[reducible] def qeD [DecidableEq α] (q : Qd R) : Qe R := ⟨q.dat, fun _ => true, q.dp, fun x _ => q.lay x, q.dep, q.dle, q.eqv⟩
@[reducible] def qeS : Qe rS := ⟨.str, PyData.strOk, fun h => by cases h; exact .str _, fun x h => by simpa only [PyData.canLay0] using h, 0, fun _ => Nat.le_refl _, fun x y => by simp only [PyData.eqv]; rw [Bool.beq_eq_decide_eq]⟩
theorem canLayAll_mapE [DecidableEq α] (q : Qe R) : ∀ xs : List α, xs.all q.ok = true → PyData.canLayAll0 (xs.map q.dat) = true
  | [], _ => rfl
  | x :: xs, h => by
    rw [List.all_cons, Bool.and_eq_true] at h
    rw [List.map_cons, PyData.canLayAll0, q.lay x h.1, canLayAll_mapE q xs h.2]; rfl
theorem depthAll_mapE [DecidableEq α] (q : Qe R) : ∀ xs : List α, PyData.depthAll (xs.map q.dat) ≤ q.dep
  | [] => Nat.zero_le _
  | x :: xs => by rw [List.map_cons, PyData.depthAll]; exact Nat.max_le.mpr ⟨q.dle x, depthAll_mapE q xs⟩
theorem eqvAll_mapE [DecidableEq α] (q : Qe R) : ∀ xs ys : List α, PyData.eqvAll (xs.map q.dat) (ys.map q.dat) = decide (xs = ys)
  | [], [] => by simp only [List.map_nil, PyData.eqvAll, decide_true]
  | [], _ :: _ => by simp [PyData.eqvAll]
  | _ :: _, [] => by simp [PyData.eqvAll]
  | x :: xs, y :: ys => by
    rw [List.map_cons, List.map_cons, PyData.eqvAll, q.eqv x y, eqvAll_mapE q xs ys, ← Bool.decide_and]
    exact decide_eq_decide.mpr (by rw [List.cons.injEq])
theorem dpAll_mapE [DecidableEq α] (q : Qe R) {vs : List V} {xs : List α} (h : RLs R K G vs xs) : DpAll K G vs (xs.map q.dat) := by
  induction h with
  | nil => exact .nil
  | cons r t ih => exact .cons (q.dp r) ih
@[reducible] def qeT [DecidableEq α] (q : Qe R) : Qe (rT R) where
  dat xs := .tuple (xs.map q.dat)
  ok xs := xs.all q.ok
  dp {K G v x} h := by
    obtain ⟨p, vs, e, h, r⟩ := h
    subst e
    exact .tup h (dpAll_mapE q r)
  lay xs h := by rw [PyData.canLay0]; exact canLayAll_mapE q xs h
  dep := q.dep + 1
  dle xs := by rw [PyData.depth]; exact Nat.succ_le_succ (depthAll_mapE q xs)
  eqv x y := by rw [PyData.eqv]; exact eqvAll_mapE q x y
@[reducible] def qe1 [DecidableEq α] (q : Qe R) : Qes (rs1 R) where
  dat x := [q.dat x]
  ok x := q.ok x
  dp {K G v x} h := by
    obtain ⟨u, e, h⟩ := h
    subst e
    exact .cons (q.dp h) .nil
  lay x h := by simp only [PyData.canLayAll0, q.lay x h, Bool.and_self]
  dep := q.dep
  dle x := by simp only [PyData.depthAll]; exact Nat.max_le.mpr ⟨q.dle x, Nat.zero_le _⟩
  eqv x y := by simp only [PyData.eqvAll, q.eqv, Bool.and_true]
@[reducible] def qeC [DecidableEq α] [DecidableEq β] {S : Rps β} (q : Qe R) (q' : Qes S) : Qes (rsC R S) where
  dat x := q.dat x.1 :: q'.dat x.2
  ok x := q.ok x.1 && q'.ok x.2
  dp {K G v x} h := by
    obtain ⟨u, r, e, h, t⟩ := h
    subst e
    exact .cons (q.dp h) (q'.dp t)
  lay x h := by
    rw [Bool.and_eq_true] at h
    simp only [PyData.canLayAll0, q.lay _ h.1, q'.lay _ h.2, Bool.and_self]
  dep := max q.dep q'.dep
  dle x := by
    simp only [PyData.depthAll]
    exact Nat.max_le.mpr ⟨Nat.le_trans (q.dle x.1) (Nat.le_max_left _ _), Nat.le_trans (q'.dle x.2) (Nat.le_max_right _ _)⟩
  eqv x y := by
    simp only [PyData.eqvAll, q.eqv, q'.eqv]
    rw [← Bool.decide_and]
    exact decide_eq_decide.mpr ⟨fun e => Prod.ext e.1 e.2, fun e => by rw [e]; exact ⟨rfl, rfl⟩⟩
@[reducible] def qeP [DecidableEq α] {S : Rps α} (q : Qes S) : Qe (rP S) where
  dat x := .tuple (q.dat x)
  ok x := q.ok x
  dp {K G v x} h := by
    obtain ⟨p, vs, e, h, r⟩ := h
    subst e
    exact .tup h (q.dp r)
  lay x h := by rw [PyData.canLay0]; exact q.lay x h
  dep := q.dep + 1
  dle x := by rw [PyData.depth]; exact Nat.succ_le_succ (q.dle x)
  eqv x y := by rw [PyData.eqv]; exact q.eqv x y
theorem Qe.shaped [DecidableEq α] (q : Qe R) (h : q.dep ≤ 64) {x : α} (hx : q.ok x = true) : SeqAt.shaped (q.dat x) = true := by
  simp only [SeqAt.shaped, q.lay x hx, Bool.true_and]
  exact decide_eq_true (Nat.le_trans (q.dle x) h)
def eqQM {α : Type} [DecidableEq α] (ok : α → Bool) (a b : Res α) : Res Bool := Res.bind2 (fun x y => if (ok x && ok y) = true then .ok (decide (x = y)) else .stuck) a b
def neQM {α : Type} [DecidableEq α] (ok : α → Bool) (a b : Res α) : Res Bool := Res.bind2 (fun x y => if (ok x && ok y) = true then .ok (!decide (x = y)) else .stuck) a b
theorem e_eqQ [DecidableEq α] (q : Qe R) (hd : q.dep ≤ 64) {m n : Res α} (ha : EvE K fm ta σ G O R m) (hb : EvE K fm tb σ G O R n) : EvE K fm (tOp (rEqD K) ta tb) σ G O rB (eqQM q.ok m n) :=
  e_op ha hb fun G1 H1 x y u v k ru rv Q h => by
    by_cases c : (q.ok x && q.ok y) = true
    · rw [if_pos c] at h
      rw [Bool.and_eq_true] at c
      exact ⟨_, _, Dp.same k.gh (q.dp ru), Dp.same k.gh (q.dp rv), q.shaped hd c.1, q.shaped hd c.2, h _ G1 H1 (Stp.refl k.gh) (by show V.bl _ = V.bl _; rw [q.eqv])⟩
    · rw [if_neg c] at h; exact h.elim
theorem e_neQ [DecidableEq α] (q : Qe R) (hd : q.dep ≤ 64) {m n : Res α} (ha : EvE K fm ta σ G O R m) (hb : EvE K fm tb σ G O R n) : EvE K fm (tOp (rNeD K) ta tb) σ G O rB (neQM q.ok m n) :=
  e_op ha hb fun G1 H1 x y u v k ru rv Q h => by
    by_cases c : (q.ok x && q.ok y) = true
    · rw [if_pos c] at h
      rw [Bool.and_eq_true] at c
      exact ⟨_, _, Dp.same k.gh (q.dp ru), Dp.same k.gh (q.dp rv), q.shaped hd c.1, q.shaped hd c.2, h _ G1 H1 (Stp.refl k.gh) (by show V.bl _ = V.bl _; rw [q.eqv])⟩
    · rw [if_neg c] at h; exact h.elim
/-! lending a list where what comes out is no list -/
theorem lend_back {l : Addr} {vs : List V} {G1 H1 G2 H2 : Hp} (hl : H1 l = some (.lst vs)) (k : Same G1 H1) (s : Stp (upd G1 l (.lst vs)) H1 G2 H2) : Stp G1 H1 (fun b => if b = l then G1 b else G2 b) H2 ∧ KpL G2 (fun b => if b = l then G1 b else G2 b) := by
  refine ⟨⟨s.hh, fun b o hb => ?_, fun b o hb => ?_, fun b o hb => ?_⟩, fun b o hb hn => ?_⟩
  · by_cases e : b = l
    · show (if b = l then G1 b else G2 b) = _
      rw [if_pos e]; exact hb
    · show (if b = l then G1 b else G2 b) = _
      rw [if_neg e]; exact s.gg b o (by rw [upd_ne e]; exact hb)
  · by_cases e : b = l
    · rw [if_pos e] at hb; exact s.hh _ _ (k _ _ hb)
    · rw [if_neg e] at hb; exact s.gh _ _ hb
  · by_cases e : b = l
    · show (if b = l then G1 b else G2 b) = _
      rw [if_pos e]
    · show (if b = l then G1 b else G2 b) = _
      rw [if_neg e, s.old b o hb, upd_ne e]
  · have e : b ≠ l := fun q => by
      rw [q, s.gg l (.lst vs) upd_same] at hb
      cases hb
      exact hn vs rfl
    show (if b = l then G1 b else G2 b) = _
    rw [if_neg e]; exact hb
theorem e_lendN {l : Addr} {o : HO} {m : Res α} (sl : Nl R) (ho : ∃ vs, o = .lst vs) (hl : (l, o) ∈ O) (h : EvE K fm te σ (upd G l o) O R m) : EvE K fm te σ G O R m := fun G1 H1 e k Q q => by
  obtain ⟨vs, rfl⟩ := ho
  exact h (upd G1 l (.lst vs)) H1 (same_upd e) (lend_kn k hl) _ (Res.wp_mono q (fun x f v G2 H2 s r => by
    obtain ⟨s', kp⟩ := lend_back (k.own _ hl) k.gh s
    exact f v _ H2 s' (sl _ _ _ _ _ kp r)) fun _ _ z => z)
theorem n_lendN {l : Addr} {o : HO} {m : Res (List α)} (sl : Nl R) (ho : ∃ vs, o = .lst vs) (hl : (l, o) ∈ O) (h : EvN K fm te σ (upd G l o) O R m) : EvN K fm te σ G O R m := fun G1 H1 e k Q q => by
  obtain ⟨vs, rfl⟩ := ho
  exact h (upd G1 l (.lst vs)) H1 (same_upd e) (lend_kn k hl) _ (Res.wp_mono q (fun x f p ws G2 H2 s hp gp h2 r => by
    obtain ⟨s', kp⟩ := lend_back (k.own _ hl) k.gh s
    refine f p ws _ H2 s' hp ?_ h2 (Paired.mapP r fun _ _ q => sl _ _ _ _ _ kp q)
    have : p ≠ l := fun q => by rw [q, k.own _ hl] at hp; cases hp
    show (if p = l then G1 p else G2 p) = none
    rw [if_neg this]; exact gp) fun _ _ z => z)
def rTl : Rp Int := ⟨fun K G v n => ∃ p vs, v = .ref p ∧ SqT K G p vs ∧ n = (vs.length : Int), fun e ⟨p, vs, a, b, c⟩ => ⟨p, vs, a, same_t e b, c⟩⟩
theorem ty_Tl : TyIs K rTl fun _ => "tuple" := fun G H v x e ⟨p, vs, ev, h, _⟩ => by subst ev; exact rd_tyT (same_t e h)
theorem e_lenTl {m : Res Int} (h : EvE K fm te σ G O rTl m) : EvE K fm (tCB (Mw.rLen K) (tCons te tNil)) σ G O zI (m.bind .ok) :=
  e_cb (a_one h) fun G1 H1 x vs k ⟨v, ev, r⟩ Q q => by
    subst ev
    obtain ⟨p, ws, rfl, hq, rfl⟩ := r
    exact ⟨_, ws.length, rfl, .inr ⟨ws, same_t k.gh hq, rfl⟩, q _ G1 H1 (Stp.refl k.gh) rfl⟩
def len3 {α β γ : Type} (a : List α × List β × List γ) : List Int := [(a.1.length : Int), (a.2.1.length : Int), (a.2.2.length : Int)]
theorem e_P3L {m : Res (List α × List β × List γ)} (h : EvE K fm te σ G O (rP (rsC (rT R) (rsC (rT S) (rs1 (rT T))))) m) : EvE K fm te σ G O (rT rTl) (m.bind fun a => .ok (len3 a)) := fun G1 H1 e k Q q =>
  h G1 H1 e k _ (Res.wp_mono (Res.wp_bind q) (fun x q v G2 H2 s r => by
    obtain ⟨p, vs, rfl, hq, v1, ws, rfl, h1, v2, ws2, rfl, h2, v3, rfl, h3⟩ := r
    obtain ⟨p1, u1, rfl, q1, r1⟩ := h1
    obtain ⟨p2, u2, rfl, q2, r2⟩ := h2
    obtain ⟨p3, u3, rfl, q3, r3⟩ := h3
    exact q _ G2 H2 s ⟨p, _, rfl, hq, .cons ⟨p1, u1, rfl, q1, by rw [Paired.length r1]⟩ (.cons ⟨p2, u2, rfl, q2, by rw [Paired.length r2]⟩ (.cons ⟨p3, u3, rfl, q3, by rw [Paired.length r3]⟩ .nil))⟩) fun _ _ z => z)
/-- xs.reverse() -/
theorem w_reverse {ρ : Type} {i : Nat} (j : Nat) {l : Addr} {vs : List V} {xs : List α} {mk : List α → Res ρ} {D : Ends} {tr : TS} {Q : ρ → Prop} (hx : σ[i]? = some (some (.ref l))) (hj : O[j]? = some (l, .lst vs)) (hr : RLs R K G vs xs) (hs : Hs fm G O H) (hm : Wp ((Res.ok xs.reverse).bind mk) Q fm.xw)
    (kk : ∀ ys ws G' H', Same G G' → Hs fm G' (O.set j (l, .lst ws)) H' → RLs R K G' ws ys → Wp (mk ys) Q fm.xw → tr D σ H') : tSeq (tDrop (tBM0 K "list" rReverse (tVar i))) tr D σ H :=
  ⟨_, hx, .inl ⟨rfl, vs, SqL.of (hs.at j hj).1⟩, l, vs, rfl, rfl, (hs.at j hj).1, kk xs.reverse vs.reverse G _ (Same.refl _) (hs.set j hj) (paired_rev hr) hm⟩
end
end Mw

/-! plain lemmas on the mirrors' combinators -/
namespace Mw
open PySem L2
section
variable {α β γ S ρ : Type}
/-- an item; out of range: anything -/
def gx [Inhabited α] (xs : List α) (i : Int) : α := (xs[i.toNat]?).getD default
theorem gx_nat [Inhabited α] {xs : List α} {i : Nat} (h : i < xs.length) : gx xs (i : Int) = xs[i] := by
  simp [gx, h]
theorem gx_mem [Inhabited α] {xs : List α} {i : Int} (h0 : 0 ≤ i) (h1 : i < xs.length) : gx xs i ∈ xs := by
  obtain ⟨n, rfl⟩ := Int.eq_ofNat_of_zero_le h0
  have h : n < xs.length := by omega
  rw [gx_nat h]; exact List.getElem_mem h
theorem atI_gx [Inhabited α] {xs : List α} {i : Int} (h0 : 0 ≤ i) (h1 : i < xs.length) : atI xs i = some (gx xs i) := by
  obtain ⟨n, rfl⟩ := Int.eq_ofNat_of_zero_le h0
  have h : n < xs.length := by omega
  rw [gx_nat h]
  unfold atI ixN
  rw [if_pos h0, if_pos h1]
  simp [h]
theorem idxM_gx [Inhabited α] {xs : List α} {i : Int} (h0 : 0 ≤ i) (h1 : i < xs.length) : idxM (.ok xs) (.ok i) = .ok (gx xs i) := by
  rw [idxM_ok, atI_gx h0 h1]; rfl
theorem gx_ext [Inhabited α] {xs ys : List α} (hl : xs.length = ys.length) (h : ∀ i : Nat, i < xs.length → gx xs i = gx ys i) : xs = ys := by
  apply List.ext_getElem hl
  intro i h1 h2
  have := h i h1
  rwa [gx_nat h1, gx_nat h2] at this
theorem gx_set [Inhabited α] {xs : List α} {i : Nat} {j : Int} {y : α} (hj : 0 ≤ j) (hi : i < xs.length) : gx (xs.set i y) j = if (i : Int) = j then y else gx xs j := by
  obtain ⟨n, rfl⟩ := Int.eq_ofNat_of_zero_le hj
  unfold gx
  simp only [Int.toNat_natCast]
  rw [List.getElem?_set]
  by_cases e : i = n
  · subst e; simp [hi]
  · rw [if_neg e, if_neg (by omega)]
theorem gx_map [Inhabited α] [Inhabited β] {xs : List α} {f : α → β} {i : Int} (h0 : 0 ≤ i) (h1 : i < xs.length) : gx (xs.map f) i = f (gx xs i) := by
  obtain ⟨n, rfl⟩ := Int.eq_ofNat_of_zero_le h0
  have h : n < xs.length := by omega
  rw [gx_nat (by simpa using h), gx_nat h, List.getElem_map]
theorem gx_rgL {lo : Int} {n : Nat} {i : Int} (h0 : 0 ≤ i) (h1 : i < n) : gx (rgL lo n) i = lo + i := by
  obtain ⟨k, rfl⟩ := Int.eq_ofNat_of_zero_le h0
  rw [gx_nat (by rw [rgL_length]; omega)]
  simp [rgL]
theorem lim_big : 1000000 < lim := by rw [lim_eq]; decide +kernel
theorem mem_rgL {lo x : Int} {n : Nat} : x ∈ rgL lo n ↔ lo ≤ x ∧ x < lo + n := by
  unfold rgL
  rw [List.mem_map]
  constructor
  · rintro ⟨i, hi, rfl⟩
    have := List.mem_range.mp hi
    omega
  · rintro ⟨h1, h2⟩
    exact ⟨(x - lo).toNat, List.mem_range.mpr (by omega), by omega⟩
theorem rng1_ok {n : Nat} (h : n < 1000000) : rng1M (.ok (n : Int)) = .ok (rgL 0 n) := by
  have : inR (n : Int) = true := by
    unfold inR
    rw [Bool.and_eq_true, decide_eq_true_eq, decide_eq_true_eq]
    have a : (-(2 ^ 62) : Int) ≤ 0 := by decide
    have b : (1000000 : Int) < 2 ^ 62 := by decide
    exact ⟨Int.le_trans a (by omega), Int.lt_trans (by omega) b⟩
  unfold rng1M
  rw [Res.bind_ok, if_pos this, Int.toNat_natCast]
theorem lcM_ok {c : α → Res Bool} {f : α → Res β} {p : α → Bool} {g : α → β} : ∀ {xs : List α}, (∀ x ∈ xs, c x = .ok (p x)) → (∀ x ∈ xs, p x = true → f x = .ok (g x)) → lcM c f xs = .ok ((xs.filter p).map g)
  | [], _, _ => rfl
  | x :: xs, h, hf => by
    have ih := lcM_ok (xs := xs) (fun y hy => h y (List.mem_cons_of_mem _ hy)) (fun y hy => hf y (List.mem_cons_of_mem _ hy))
    unfold lcM
    rw [h x (List.mem_cons_self ..), Res.nox_ok, Res.bind_ok]
    cases e : p x
    · rw [if_neg (by simp), ih, List.filter_cons_of_neg (by simp [e])]
    · rw [if_pos rfl, hf x (List.mem_cons_self ..) e, Res.nox_ok, Res.bind_ok, ih, List.filter_cons_of_pos e]; rfl
theorem lcB_ok {c : α → Res Bool} {f : α → Res β} (p : α → Bool) (g : α → β) {xs : List α} (hl : xs.length < 1000000) (h : ∀ x ∈ xs, c x = .ok (p x)) (hf : ∀ x ∈ xs, p x = true → f x = .ok (g x)) : lcB c f (.ok xs) = .ok ((xs.filter p).map g) := by
  show (if xs.length < lim then lcM c f xs else .stuck) = _
  rw [if_pos (Nat.lt_trans hl (lim_big)), lcM_ok h hf]
theorem lcB_map {f : α → Res β} (g : α → β) {xs : List α} (hl : xs.length < 1000000) (hf : ∀ x ∈ xs, f x = .ok (g x)) : lcB (fun _ => .ok true) f (.ok xs) = .ok (xs.map g) := by
  rw [lcB_ok (fun _ => true) g hl (fun _ _ => rfl) (fun x h _ => hf x h), List.filter_eq_self.mpr (fun _ _ => rfl)]
theorem lcB_filter {c : α → Res Bool} (p : α → Bool) {xs : List α} (hl : xs.length < 1000000) (h : ∀ x ∈ xs, c x = .ok (p x)) : lcB c (fun x => .ok x) (.ok xs) = .ok (xs.filter p) := by
  have := lcB_ok (f := fun x => .ok x) p (fun x => x) hl h (fun _ _ _ => rfl)
  rw [this, List.map_id']
theorem forM_ok {f : α → S → Res S} (P : List α → S → Prop) : ∀ {xs : List α} {s : S}, P xs s → (∀ x ys s, x ∈ xs → P (x :: ys) s → ∃ s', f x s = .ok s' ∧ P ys s') → ∃ s', forM f xs s = .ok s' ∧ P [] s'
  | [], s, h, _ => ⟨s, rfl, h⟩
  | x :: xs, s, h, k => by
    obtain ⟨s', e, h'⟩ := k x xs s (List.mem_cons_self ..) h
    unfold forM
    rw [e, Res.bind_ok]
    exact forM_ok P h' fun y ys s hy => k y ys s (List.mem_cons_of_mem _ hy)
theorem forM_fold {f : α → S → Res S} (g : S → α → S) (P : S → Prop) : ∀ {xs : List α} {s : S}, P s → (∀ x s, x ∈ xs → P s → f x s = .ok (g s x) ∧ P (g s x)) → forM f xs s = .ok (xs.foldl g s) ∧ P (xs.foldl g s)
  | [], s, h, _ => ⟨rfl, h⟩
  | x :: xs, s, h, k => by
    obtain ⟨e, h'⟩ := k x s (List.mem_cons_self ..) h
    unfold forM
    rw [e, Res.bind_ok]
    exact forM_fold g P h' fun y s hy => k y s (List.mem_cons_of_mem _ hy)
theorem rgL_cons (lo : Int) (n : Nat) : rgL lo (n + 1) = lo :: rgL (lo + 1) n := by
  unfold rgL
  rw [List.range_succ_eq_map, List.map_cons, List.map_map]
  congr 1
  · simp
  · apply List.map_congr_left
    intro i _
    simp only [Function.comp, Nat.succ_eq_add_one]
    omega
theorem rgL_succ (lo : Int) (n : Nat) : rgL lo (n + 1) = rgL lo n ++ [lo + (n : Int)] := by
  unfold rgL
  rw [List.range_succ, List.map_append]; rfl
/-- a loop over a range -/
theorem forM_rng {f : Int → S → Res S} (P : Nat → S → Prop) {n : Nat} {s : S} (h0 : P 0 s) (lo : Int) (h : ∀ k s, k < n → P k s → ∃ s', f (lo + (k : Int)) s = .ok s' ∧ P (k + 1) s') : ∃ s', forM f (rgL lo n) s = .ok s' ∧ P n s' := by
  have gen : ∀ (r k : Nat) (s : S), k + r = n → P k s → ∃ s', forM f (rgL (lo + (k : Int)) r) s = .ok s' ∧ P n s' := by
    intro r
    induction r with
    | zero => intro k s e hp; exact ⟨s, rfl, by rw [← e]; exact hp⟩
    | succ r ih =>
      intro k s e hp
      obtain ⟨s', e1, h1⟩ := h k s (by omega) hp
      obtain ⟨s2, e2, h2⟩ := ih (k + 1) s' (by omega) h1
      refine ⟨s2, ?_, h2⟩
      rw [rgL_cons]
      show (f (lo + (k : Int)) s).bind _ = _
      rw [e1, Res.bind_ok]
      rw [show lo + (k : Int) + 1 = lo + ((k + 1 : Nat) : Int) by omega]
      exact e2
  obtain ⟨s', e, h⟩ := gen n 0 s (by omega) h0
  exact ⟨s', by simpa using e, h⟩
/-- a loop that appends -/
theorem forM_app {f : α → List β → Res (List β)} (g : α → β) {xs : List α} (hl : xs.length < 1000000) (h : ∀ x acc, x ∈ xs → f x acc = appM acc (.ok (g x)) .ok) : forM f xs [] = .ok (xs.map g) := by
  have gen : ∀ (ys : List α) (acc : List β), (∀ x ∈ ys, x ∈ xs) → acc.length + ys.length ≤ xs.length → forM f ys acc = .ok (acc ++ ys.map g) := by
    intro ys
    induction ys with
    | nil => intro acc _ _; simp [forM]
    | cons y ys ih =>
      intro acc hm hl2
      unfold forM
      simp only [List.length_cons] at hl2
      rw [h y acc (hm y (List.mem_cons_self ..)), appM_ok _ _ _ (Nat.lt_trans (by omega : acc.length < 1000000) lim_big), Res.bind_ok, ih _ (fun x hx => hm x (List.mem_cons_of_mem _ hx)) (by simp; omega)]
      simp
  have := gen xs [] (fun _ h => h) (by simp)
  simpa using this
/-- a loop that only looks whether to leave with False -/
theorem forB_all {f : α → Unit → Res (Tn Unit Bool)} (p : α → Bool) : ∀ {xs : List α}, (∀ x ∈ xs, f x () = .ok (if p x = true then .nx () else .rt false)) → forB f xs () = .ok (if xs.all p = true then .nx () else .rt false)
  | [], _ => rfl
  | x :: xs, h => by
    have ih := forB_all p (xs := xs) fun y hy => h y (List.mem_cons_of_mem _ hy)
    unfold forB
    rw [h x (List.mem_cons_self ..), Res.bind_ok]
    cases e : p x
    · rw [if_neg (by simp)]
      rw [if_neg (by rw [List.all_cons, e]; simp)]
    · rw [if_pos rfl]
      show forB f xs () = _
      rw [ih, List.all_cons, e, Bool.true_and]
theorem shl1_ok {d : Nat} (h : d ≤ 1000) : shlM (.ok 1) (.ok (d : Int)) = .ok (((2 ^ d : Nat) : Nat) : Int) := by
  have : cpow 1 (d : Int) = true := by
    unfold cpow
    simp only [Bool.and_eq_true, decide_eq_true_eq]
    exact ⟨⟨by omega, by omega⟩, by decide⟩
  show (if cpow 1 (d : Int) = true then Res.ok ((1 : Int) * 2 ^ (d : Int).toNat) else .stuck) = _
  rw [if_pos this, Int.toNat_natCast, Int.one_mul]
  simp
theorem shl_ok {x : Int} {d : Nat} (h : d ≤ 1000) (hx : x.natAbs < 2 ^ 64) : shlM (.ok x) (.ok (d : Int)) = .ok (x * ((2 ^ d : Nat) : Int)) := by
  have : cpow x (d : Int) = true := by
    unfold cpow
    simp only [Bool.and_eq_true, decide_eq_true_eq]
    exact ⟨⟨by omega, by omega⟩, hx⟩
  show (if cpow x (d : Int) = true then Res.ok (x * 2 ^ (d : Int).toNat) else .stuck) = _
  rw [if_pos this, Int.toNat_natCast]
  simp
theorem mul_ok {x y : Int} (h : x.natAbs < 2 ^ 60 ∨ y.natAbs < 2 ^ 60) : mulM (.ok x) (.ok y) = .ok (x * y) := by
  show (if inB x || inB y then Res.ok (x * y) else .stuck) = _
  have : (inB x || inB y) = true := by
    simp only [inB, Bool.or_eq_true, Bool.and_eq_true, decide_eq_true_eq]
    rcases h with h | h
    · exact .inl ⟨by omega, by omega⟩
    · exact .inr ⟨by omega, by omega⟩
  rw [if_pos this]
theorem mod_ok {x y : Int} (h : 0 < y) : modM (.ok x) (.ok y) = .ok (x % y) := by
  show (if decide (0 < y) = true then Res.ok (x % y) else .stuck) = _
  rw [if_pos (by simpa using h)]
theorem fdiv_ok {x y : Int} (h : 0 < y) (h2 : y < 1073741824) : fdivM (.ok x) (.ok y) = .ok (x / y) := by
  show (if (decide (0 < y) && decide (y < 1073741824)) = true then Res.ok (x / y) else .stuck) = _
  rw [if_pos (by simp [h, h2])]
@[simp] theorem addM_ok (x y : Int) : addM (.ok x) (.ok y) = .ok (x + y) := rfl
@[simp] theorem subM_ok (x y : Int) : subM (.ok x) (.ok y) = .ok (x - y) := rfl
@[simp] theorem negM_ok (x : Int) : negM (.ok x) = .ok (-x) := rfl
theorem setM_ok {xs : List α} {i : Int} {y : α} {mk : List α → Res ρ} (h0 : 0 ≤ i) (h1 : i < xs.length) : setM xs (.ok i) (.ok y) mk = mk (xs.set i.toNat y) := by
  show (setF xs i y).bind mk = _
  unfold setF ixN
  rw [if_pos h0, if_pos h1]; rfl
theorem bif_eq {c : Bool} {a b : Res α} : Res.ite (.ok c) a b = if c = true then a else b := rfl
end
end Mw

/-! what all laws draw by: mirrors and facts -/
namespace Mw
open PySem L2
def m_law_far (p_script : (List Int)) (p_k : Int) : Res Int :=
  (Res.ite (eqM (lenM (.ok p_script)) (.ok (0 : Int)))
  (addM (mulM (.ok (97 : Int)) (.ok p_k)) (.ok (5 : Int)))
  (Res.ite (ltM (.ok p_k) (lenM (.ok p_script)))
  (idxM (.ok p_script) (.ok p_k))
  (addM (idxM (.ok p_script) (modM (Res.bind (.ok p_k) .ok) (lenM (.ok p_script)))) (mulM (.ok (1000003 : Int)) (.ok p_k)))))
def m_law_parts_b11 (p_cell : Int) (p_sizes : (List Int)) (p_k : Int) (s_ : (List Int) × Int) : Res ((List Int) × Int) :=
  match s_ with
 | (p_parts, p_rest) =>
  (Res.ite (geM (.ok p_rest) (.ok (0 : Int)))
  (appM p_parts (modM (Res.bind (.ok p_rest) .ok) (idxM (.ok p_sizes) (.ok p_k))) fun p_parts =>
  (Res.bind (fdivM (.ok p_rest) (idxM (.ok p_sizes) (.ok p_k))) fun (p_rest : Int) =>
  (.ok (p_parts, p_rest))))
  (Res.bind (modM (Res.bind (addM (addM (mulM (.ok p_cell) (.ok (48271 : Int))) (mulM (.ok p_k) (.ok (69621 : Int)))) (.ok (11 : Int))) .ok) (.ok (2147483647 : Int))) fun (p_mixed : Int) =>
  (Res.bind (modM (Res.bind (addM (addM (mulM (.ok p_mixed) (.ok p_mixed)) (mulM (.ok (16807 : Int)) (.ok p_k))) (.ok (5 : Int))) .ok) (.ok (998244353 : Int))) fun (p_mixed : Int) =>
  (appM p_parts (modM (Res.bind (.ok p_mixed) .ok) (idxM (.ok p_sizes) (.ok p_k))) fun p_parts =>
  (.ok (p_parts, p_rest))))))
def m_law_parts (p_cell : Int) (p_sizes : (List Int)) : Res (List Int) :=
  (Res.bind (.ok []) fun (p_parts : (List Int)) =>
  (Res.bind (subM (.ok p_cell) (powM (.ok (10 : Int)) (.ok (18 : Int)))) fun (p_rest : Int) =>
  (Res.bind (Res.bind (rng1M (lenM (.ok p_sizes))) fun xs => forM (m_law_parts_b11 p_cell p_sizes) xs (p_parts, p_rest)) (fun (s_ : (List Int) × Int) => match s_ with
 | (p_parts, p_rest) =>
  (.ok p_parts)))))
def m_law_is_integer (p_actual : (Option Int)) : Res Bool :=
  (andM (Res.bind (.ok p_actual) fun o => .ok (o.isSome)) (notM (Res.bind (.ok p_actual) fun o => .ok (false))))
def m_law_bits (p_number : Int) (p_count : Int) : Res (List Int) :=
  (lcB (fun (x1 : Int) => .ok true) (fun (x1 : Int) => (modM (fdivM (Res.bind (.ok p_number) .ok) (shlM (.ok (1 : Int)) (.ok x1))) (.ok (2 : Int)))) (rng1M (.ok p_count)))

theorem ltM_ok (a b : Int) : ltM (.ok a) (.ok b) = .ok (decide (a < b)) := rfl
theorem leM_ok (a b : Int) : leM (.ok a) (.ok b) = .ok (decide (a ≤ b)) := rfl
theorem gtM_ok (a b : Int) : gtM (.ok a) (.ok b) = .ok (decide (b < a)) := rfl
theorem geM_ok (a b : Int) : geM (.ok a) (.ok b) = .ok (decide (b ≤ a)) := rfl
theorem isint (x : Int) : m_law_is_integer (some x) = .ok true := rfl
theorem far (script : List Int) (hl : script.length ≤ 1000) {k : Int} (hk : 0 ≤ k ∧ k ≤ 1000000) : ∃ x, m_law_far script k = .ok x := by
  unfold m_law_far
  rw [lenM_ok, eqM_ok, bif_eq]
  split
  · exact ⟨_, by rw [mul_ok (by left; decide), addM_ok]⟩
  · rename_i h0
    have hp : 0 < script.length := by
      cases script with
      | nil => exact absurd rfl h0
      | cons a b => simp
    show ∃ x, Res.ite (.ok (decide (k < (script.length : Int)))) _ _ = .ok x
    rw [bif_eq]
    split
    · rename_i h1
      exact ⟨_, idxM_gx hk.1 (of_decide_eq_true h1)⟩
    · rw [Res.bind_ok, mod_ok (by omega), idxM_gx (Int.emod_nonneg _ (by omega)) (Int.emod_lt_of_pos _ (by omega)), mul_ok (by left; decide), addM_ok]
      exact ⟨_, rfl⟩
theorem parts (cell : Int) {sizes : List Int} (hl : sizes.length ≤ 1000) (hz : ∀ x ∈ sizes, 0 < x ∧ x < 1000000) : ∃ ps : List Int, m_law_parts cell sizes = .ok ps ∧ ps.length = sizes.length ∧ ∀ i : Int, 0 ≤ i ∧ i < sizes.length → 0 ≤ gx ps i ∧ gx ps i < gx sizes i := by
  have hb := lim_big
  unfold m_law_parts
  have ep : powM (.ok (10 : Int)) (.ok (18 : Int)) = .ok (10 ^ 18) := by
    have : cpow 10 18 = true := by decide
    show (if cpow 10 18 = true then Res.ok ((10 : Int) ^ (18 : Int).toNat) else .stuck) = _
    rw [if_pos this]; rfl
  rw [Res.bind_ok, ep, subM_ok, Res.bind_ok, lenM_ok, rng1_ok (by omega), Res.bind_ok]
  obtain ⟨⟨ps, rest⟩, e, h1, h2⟩ := forM_rng (f := m_law_parts_b11 cell sizes) (fun k (x : List Int × Int) => x.1.length = k ∧ ∀ i : Int, 0 ≤ i ∧ i < k → 0 ≤ gx x.1 i ∧ gx x.1 i < gx sizes i) (n := sizes.length) (s := ([], cell - 10 ^ 18)) ⟨rfl, fun i hi => by omega⟩ 0 fun k ⟨ps, rest⟩ hk ⟨h1, h2⟩ => by
    dsimp only at h1 h2
    have hs : 0 ≤ (0 : Int) + (k : Int) ∧ (0 : Int) + (k : Int) < sizes.length := ⟨by omega, by omega⟩
    have hz' := hz _ (gx_mem hs.1 hs.2)
    have put : ∀ y : Int, 0 ≤ y ∧ y < gx sizes (0 + (k : Int)) → (ps ++ [y]).length = k + 1 ∧ ∀ i : Int, 0 ≤ i ∧ i < ((k + 1 : Nat) : Int) → 0 ≤ gx (ps ++ [y]) i ∧ gx (ps ++ [y]) i < gx sizes i := fun y hy => by
      refine ⟨by rw [List.length_append, h1]; rfl, fun i hi => ?_⟩
      obtain ⟨n, rfl⟩ := Int.eq_ofNat_of_zero_le hi.1
      by_cases hn : n < k
      · have := h2 (n : Int) ⟨hi.1, by omega⟩
        rw [gx_nat (by rw [h1]; exact hn)] at this
        rw [gx_nat (by rw [List.length_append, h1]; omega), List.getElem_append_left (by rw [h1]; exact hn)]
        exact this
      · have en : n = k := by omega
        subst en
        rw [gx_nat (by rw [List.length_append, h1]; simp), List.getElem_append_right (by omega)]
        rw [Int.zero_add] at hy
        simpa [h1] using hy
    unfold m_law_parts_b11
    dsimp only
    show ∃ s', Res.ite (.ok (decide (rest ≥ 0))) _ _ = .ok s' ∧ _
    rw [bif_eq]
    split
    · rw [idxM_gx hs.1 hs.2, Res.bind_ok, mod_ok hz'.1, appM_ok _ _ _ (by rw [h1]; omega), fdiv_ok hz'.1 (by omega), Res.bind_ok]
      exact ⟨_, rfl, put _ ⟨Int.emod_nonneg _ (by omega), Int.emod_lt_of_pos _ hz'.1⟩⟩
    · rw [mul_ok (by right; decide), mul_ok (by right; decide), addM_ok, addM_ok, Res.bind_ok, mod_ok (by decide), Res.bind_ok]
      have m0 : 0 ≤ (cell * 48271 + (0 + (k : Int)) * 69621 + 11) % 2147483647 := Int.emod_nonneg _ (by decide)
      have m1 : (cell * 48271 + (0 + (k : Int)) * 69621 + 11) % 2147483647 < 2147483647 := Int.emod_lt_of_pos _ (by decide)
      generalize (cell * 48271 + (0 + (k : Int)) * 69621 + 11) % 2147483647 = q at m0 m1
      rw [mul_ok (by left; omega), mul_ok (by left; decide), addM_ok, addM_ok, Res.bind_ok, mod_ok (by decide), Res.bind_ok, idxM_gx hs.1 hs.2, Res.bind_ok, mod_ok hz'.1, appM_ok _ _ _ (by rw [h1]; omega)]
      exact ⟨_, rfl, put _ ⟨Int.emod_nonneg _ (by omega), Int.emod_lt_of_pos _ hz'.1⟩⟩
  dsimp only at h1 h2
  exact ⟨ps, by rw [e, Res.bind_ok], h1, h2⟩
/-- the bits of a number -/
def bitsL (n : Int) (c : Nat) : List Int := (List.range c).map fun k => n / ((2 ^ k : Nat) : Int) % 2
theorem bitsL_length (n : Int) (c : Nat) : (bitsL n c).length = c := by simp [bitsL]
theorem bitsL_get (n : Int) {c i : Nat} (h : i < c) : (bitsL n c)[i]? = some (n / ((2 ^ i : Nat) : Int) % 2) := by simp [bitsL, h]
theorem bitsL_gx (n : Int) {c : Nat} {i : Int} (h0 : 0 ≤ i) (h : i < c) : gx (bitsL n c) i = n / ((2 ^ i.toNat : Nat) : Int) % 2 := by
  unfold gx
  rw [bitsL_get n (show i.toNat < c by omega)]; rfl
theorem bitsL_01 (n : Int) (c : Nat) : ∀ x ∈ bitsL n c, x = 0 ∨ x = 1 := fun x hx => by
  obtain ⟨k, _, rfl⟩ := List.mem_map.mp hx
  omega
theorem bits_eq (n : Int) {c : Nat} (hc : c ≤ 20) : m_law_bits n (c : Int) = .ok (bitsL n c) := by
  unfold m_law_bits
  rw [rng1_ok (by omega)]
  have : bitsL n c = (rgL 0 c).map fun k => n / ((2 ^ k.toNat : Nat) : Int) % 2 := by
    unfold bitsL rgL
    rw [List.map_map]
    apply List.map_congr_left
    intro k _
    simp
  rw [this]
  refine lcB_map _ (by rw [rgL_length]; omega) fun x hx => ?_
  obtain ⟨h0, h1⟩ := mem_rgL.mp hx
  obtain ⟨k, rfl⟩ := Int.eq_ofNat_of_zero_le h0
  have p : 0 < 2 ^ k := Nat.pow_pos (by decide)
  have q : 2 ^ k ≤ 2 ^ 20 := Nat.pow_le_pow_right (by decide) (by omega)
  rw [shl1_ok (by omega), Res.bind_ok, fdiv_ok (by omega) (by omega), mod_ok (by omega)]
  simp
theorem repC_ok {α : Type} (xs : List α) {n : Nat} (hn : n ≤ 1000000) (hx : xs.length * n ≤ 1000000) : repM (.ok xs) (.ok (n : Int)) = .ok (List.replicate n xs).flatten := by
  have hb := lim_big
  have h1 : (decide (-(2 ^ 63) ≤ (n : Int)) && decide ((n : Int) < 2 ^ 63) && decide (xs.length * (n : Int).toNat ≤ lim)) = true := by
    have q1 : (-(2 ^ 63) : Int) ≤ 0 := by decide
    have q2 : (1000001 : Int) < 2 ^ 63 := by decide
    rw [decide_eq_true (Int.le_trans q1 (by omega)), decide_eq_true (Int.lt_trans (by omega) q2), decide_eq_true]
    · rfl
    · rw [Int.toNat_natCast]; omega
  unfold repM
  rw [Res.bind2_ok]
  unfold repF
  rw [if_pos h1, Int.toNat_natCast]
theorem rep1_ok {α : Type} (a : α) {n : Nat} (hn : n ≤ 1000000) : repM (.ok [a]) (.ok (n : Int)) = .ok (List.replicate n a) := by
  rw [repC_ok [a] hn (by simpa using hn)]
  congr 1
  induction n with
  | zero => rfl
  | succ n ih => rw [List.replicate_succ, List.flatten_cons, ih (by omega), List.replicate_succ]; rfl
theorem catM_ok {α : Type} (xs ys : List α) (h : xs.length + ys.length ≤ 1000000) : catM (.ok xs) (.ok ys) = .ok (xs ++ ys) := by
  have hb := lim_big
  unfold catM
  rw [Res.bind2_ok]
  unfold catF
  rw [if_pos (by omega)]
theorem lrg1_ok {n : Nat} (h : n < 1000000) : lrg1M (.ok (n : Int)) = .ok (rgL 0 n) := by
  have hb := lim_big
  have a : (-(2 ^ 62) : Int) ≤ 0 := by decide
  have b : (1000000 : Int) < 2 ^ 62 := by decide
  have e : rgOk 0 (n : Int) = true := by
    unfold rgOk inR
    have q : (((n : Int) - 0).toNat ≤ lim) := by omega
    have z : (0 : Int) < 2 ^ 62 := by decide
    have w : (-(2 ^ 62) : Int) ≤ (n : Int) := Int.le_trans a (by omega)
    have w2 : (n : Int) < 2 ^ 62 := Int.lt_trans (show (n : Int) < 1000000 by omega) b
    simp only [Bool.and_eq_true, decide_eq_true_eq]
    exact ⟨⟨⟨a, z⟩, w, w2⟩, q⟩
  unfold lrg1M
  rw [Res.bind_ok, if_pos e, Int.toNat_natCast]
theorem insF_ok {α : Type} (xs : List α) (y : α) (h : xs.length < 1000000) : insF xs 0 y = .ok (y :: xs) := by
  have hb := lim_big
  have z : (0 : Int) < 2 ^ 62 := by decide
  unfold insF
  rw [if_pos ⟨Nat.lt_trans h hb, Int.le_refl 0, z⟩]
  rfl
theorem insM_ok {α ρ : Type} (xs : List α) (y : α) (mk : List α → Res ρ) (h : xs.length < 1000000) : insM xs (.ok 0) (.ok y) mk = mk (y :: xs) := by
  unfold insM
  rw [Res.bind_ok, Res.bind_ok, insF_ok xs y h, Res.bind_ok]
theorem all_rgL {n : Nat} {p : Int → Bool} : (rgL 0 n).all p = true ↔ ∀ k : Nat, k < n → p (k : Int) = true := by
  rw [List.all_eq_true]
  constructor
  · intro h k hk
    exact h _ (mem_rgL.mpr ⟨by omega, by omega⟩)
  · intro h x hx
    obtain ⟨h0, h1⟩ := mem_rgL.mp hx
    obtain ⟨k, rfl⟩ := Int.eq_ofNat_of_zero_le h0
    exact h k (by omega)
theorem rgL_map_succ (n : Nat) (i : Int) : rgL (i + 1) n = (rgL i n).map (· + 1) := by
  unfold rgL
  rw [List.map_map]
  apply List.map_congr_left
  intro k _
  simp only [Function.comp]
  omega
theorem gx_succ {α : Type} [Inhabited α] (x : α) (xs : List α) {i : Int} (h : 0 ≤ i) : gx (x :: xs) (i + 1) = gx xs i := by
  unfold gx
  rw [show (i + 1).toNat = i.toNat + 1 by omega, List.getElem?_cons_succ]
theorem gx_zero {α : Type} [Inhabited α] (x : α) (xs : List α) : gx (x :: xs) 0 = x := rfl
end Mw


/-! super().__init__(..) in the __init__ of an own exception, as a def of the hand layer -/
namespace Mw
open PySem PySem.Spec PyProof.Rows L2
open PySem.W PySem.Calls in
/-- the bound ValueError.__init__ called -/
theorem call_mw {prog : Program} {w : World} {A : Around} {E : Value → Shared → Prop} {h : Heap} {g : Array GenState} {d : Drawn} {tk : Nat} {os : OsState} {u x t C N : Addr} {nm q : Str} {bs bm : List Value} {sn : List Str} {sub : List Value} {ab : Bool} {col : Option Bool} {dd dv : Option Addr} {k0 k1 k2 k3 k5 : Option Value} {rest : List Value} {Q : Value → Shared → Prop}
    (hC : h.get? C = some (excClassObj nm q C N bs bm true sn sub ab col dd k0 k1 k2 k3 k5 "ValueError.__new__")) (he : h.get? x = some (excObj C t dv .none)) (hu : h.get? u = some (kxs_mw "ValueError.__init__" x)) (hz : rest.length ≤ sizeLine)
    (fin : ∀ h', (∀ b o, b ≠ x → h.get? b = some o → h'.get? b = some o) → h'.get? x = some (excObj C h.objs.size dv .none) → h'.get? h.objs.size = some (excTup rest) → Q .none ⟨h', g, d, tk, os⟩) :
    wpAny (model prog w) A (call (.ref u) rest) Q E ⟨h, g, d, tk, os⟩ := by
  refine wpAny_call (codeAny_of_tree ?_)
  show wpAny _ A.in1 (callAny (.ref u) ⟨rest, []⟩) _ _ _
  simp only [callAny]
  refine wpAny_bind (wpAny_load hu ?_)
  simp only [kxs_mw, show (Value.type "method-wrapper" == Value.type "method" || Value.type "method-wrapper" == Value.type "builtin_function_or_method" || Value.type "method-wrapper" == Value.type "method-wrapper") = true by decide, if_true]
  refine KFB.if_so (by decide) ?_
  refine wpAny_bind (check_bound_init F.excBase_ValueError.toExcCallFacts hC he rfl ?_)
  refine wpAny_bind (wpAny_pure (wpAny_pure ?_))
  refine ⟨plainId_quiet F.excBase_ValueError.init.plain _, codeAny_builtin F.excBase_ValueError.initEntry ?_⟩
  exact exc_init_tree (cls := .ref C) (t0 := t) (dv := dv) (c2 := .none) (c3 := .none) (b4 := .bool false) he hz fin
end Mw

namespace Mw
open PySem PySem.Spec PyProof.Rows L2 NdefX
/-- what the written part says of the class D and of its __init__ at f -/
structure SupC (P : Program) (K : PySem.W.Frag) (mg : Str → Option Value) (D cc cda : Addr) : Prop where
  ox : OexC K D
  cell : ∃ cl cld csl, K.lookup cc = some (⟨cl, cld, .cell (some (.ref D)), csl⟩ : Obj)
  code : ∃ ccl cdd vs ccs file tf, K.lookup cda = some (⟨ccl, cdd, .fields vs, ccs⟩ : Obj) ∧ vs[2]? = some (.str file tf) ∧ ((P.main.file : Str) == file) = true
  sup : mg "super" = none
  top : (P.main.scope.names.lookup ("super" : Str)).isSome = false
  opq : PySem.W.nsIn K cStatics "thirdparty.any" = some none
  along : PySem.W.ks_superIn K D D "__init__" = some (some (.builtin "ValueError.__init__"))
  mro : PySem.W.mroIn K D (.ref D) = some true
  ve : PySem.W.mroIn K D (.type "ValueError") = some true
theorem look1 {x y : Str} {c : Addr} (h : y ≠ x) : ([(x, c)] : List (Str × Addr)).lookup y = none := by
  have e : (y == x) = false := by simpa using h
  rw [List.lookup_cons, e]
  rfl
abbrev supF (name qual : Str) (params : Arguments) (body : List Stmt) (scope : Scope) (cc cda : Addr) : NF := ⟨name, qual, params, body, scope, [(("__class__" : Str), cc)], cda⟩
theorem fn_super {CX : CXT} {P : Program} {w : World} {K : PySem.W.Frag} {mg : Str → Option Value} {base : Heap} {k : Nat} {f cc cda D : Addr} {name qual : Str} {params : Arguments} {txt : Str} {tk0 : Nat} {p0 p1 p2 p3 p4 p5 : Pos} {rest : List Stmt} {scope : Scope} {dV kV doc pm ct oc : Value} {an od : Option Addr}
    {osl : Array (Option Value)} {N ps : List Str} {ar : Arg} {sp : Sp} {body : List Stmt} (hF : body = .Expr (.Call (.Attribute (.Call (.Name "super" p0) [] [] p1) "__init__" p2) [.Constant (.str txt) tk0 p5] [] p3) p4 :: rest)
    (lk : K.lookup f = some ⟨oc, od, .func (PySem.W.fnX name qual params body scope [("__class__", cc)] dV kV doc pm an (.ref cda) ct), osl⟩) (hcd : PySem.W.codeIn K (.ref cda) qual = true)
    (S : NScope N ps ["__class__"] scope) (SC : SupC P K mg D cc cda) (hks : scope.names.lookup ("super" : Str) = some .globalImplicit) (hp : (params.posonlyargs ++ params.args).head? = some ar) (h0 : ps[0]? = some ar.arg) (hbt : bootBuiltins "super" = some (.type "super"))
    (pl : Addr → Sem Bool) (hev : ∀ L, eval (.Call (.Attribute (.Call (.Name "super" p0) [] [] p1) "__init__" p2) [.Constant (.str txt) tk0 p5] [] p3) (envF (supF name qual params body scope cc cda) f L) = (do
      let ov ← attributeBase (.Call (.Name "super" p0) [] [] p1) "__init__" (envF (supF name qual params body scope cc cda) f L) (eval (.Call (.Name "super" p0) [] [] p1) (envF (supF name qual params body scope cc cda) f L))
      standAt p2.atName
      let (g, first) ← holding [ov] (getMethod ov "__init__" (pl L))
      callWith p3 g first (backTo p3 (starEach [.Constant (.str txt) tk0 p5] (envF (supF name qual params body scope cc cda) f L))) []))
    (hsw : ∀ L, swapsWith (.Call (.Attribute (.Call (.Name "super" p0) [] [] p1) "__init__" p2) [.Constant (.str txt) tk0 p5] [] p3) none p4.line (envF (supF name qual params body scope cc cda) f L) = pure false)
    (len : ∀ vs H Q E, sp vs H Q E → vs.length = ps.length)
    (hbody : ∀ (A : Around) (outer : List Env) (s : Shared) (H : Hp) (vs : List V) (Q : VK) (E : XK), Room k (A.deeper (envF (supF name qual params body scope cc cda) f s.heap.objs.size)) → sp vs H Q E →
      ∃ a t, vs[0]? = some (.ref a) ∧ PSs (ncx CX P w K mg base N (supF name qual params body scope cc cda) f A outer s H E) rest t ∧ H a = some (exo a D none) ∧ t { nx := fun _ H' => Q .non H', rt := Q } (startF N vs [none]) H) :
    FnOk P w K mg base CX (k + 1) f (PySem.W.fnX name qual params body scope [("__class__", cc)] dV kV doc pm an (.ref cda) ct) ps sp := by
  refine ⟨len, fun A outer s H args us vs Q E hr e0 hb r hsp => ?_⟩
  have hl := len _ _ _ _ hsp
  have KX : K.In s.heap := e0.mod.kin.keeps fun b o e => (e0.bs b o e).1
  have lim : s.heap.NoLimit := e0.mod.nolimit.keeps fun b o e => (e0.bs b o e).1
  obtain ⟨cl, cld, csl, hcell⟩ := SC.cell
  obtain ⟨ccl, cdd, cvs, ccs, file, tf, hcode, hvs, hfile⟩ := SC.code
  have hcc : H cc = none := (e0.bs _ _ (e0.mod.kin _ _ hcell)).2
  have CA : CellsAt (supF name qual params body scope cc cda).cl ["__class__"] [none] s.heap H := by
    refine ⟨rfl, fun y c e => ?_, fun x y c hx hy => ?_, fun i y hi => ?_⟩
    · have ey : y = "__class__" ∧ c = cc := by
        by_cases h : y = "__class__"
        · subst h
          exact ⟨rfl, (Option.some.inj (show some cc = some c from by rw [← e]; exact (List.lookup_cons_self).symm)).symm⟩
        · rw [show (supF name qual params body scope cc cda).cl.lookup y = none from look1 h] at e
          cases e
      rw [ey.2]
      exact ⟨hcc, _, _, KX _ _ hcell, rfl⟩
    · have q : ∀ z, ([("__class__", cc)] : List (Str × Addr)).lookup z = some c → z = "__class__" := fun z e => by
        by_cases h : z = "__class__"
        · exact h
        · rw [look1 h] at e
          cases e
      rw [q x hx, q y hy]
    · cases i with
      | zero =>
        cases hi
        exact ⟨cc, List.lookup_cons_self, fun v hv => by cases hv⟩
      | succ i => cases hi
  refine codeAny_call_function hr.depth (KX _ _ lk) rfl S.co S.gen rfl (PySem.W.codeRec_of KX hcd) (hb _ _ _ _ ?_)
  refine wpAny_newFunctionEnv (by exact S.nocell) (fun ⟨n, _⟩ hy => S.par n (List.of_mem_zip hy).1) (fun h₁ hns hsb => ⟨lim.fresh _ hsb, ?_⟩) S.kind
  have kp : ∀ b o, s.heap.get? b = some o → h₁.get? b = some o := fun b o e => hsb.extBut b o (Nat.ne_of_lt (Heap.lt_size e)) (Heap.get?_push_of_some _ e)
  show codeAny _ _ (.func body (envF (supF name qual params body scope cc cda) f s.heap.objs.size)) _ _
  refine ks_codeAny_funcAt ?_
  obtain ⟨a, t, ha0, ht, hHa, hq⟩ := hbody A outer s H vs Q E (hr.deeper _) hsp
  have I : Inv (ncx CX P w K mg base N (supF name qual params body scope cc cda) f A outer s H E) [] (startF N vs [none]) H { s with heap := h₁, toks := s.toks + (ps.zip us).length } := inv_startN S hr.hd e0 hl r CA hns kp
  have fin : ∀ fl s', SP (ncx CX P w K mg base N (supF name qual params body scope cc cda) f A outer s H E) [] { nx := fun _ H' => Q .non H', rt := Q } fl s' → CR CX outer P w H s Q E (.ok (.ret (match fl with | .ret v => v | _ => .none))) s' := fun fl s' hs => by
    cases fl with
    | ret u =>
      obtain ⟨v, σ', H', J, rv, q⟩ := hs
      exact ⟨v, H', J.os, J.bare, J.base, J.hok, rv, q⟩
    | next =>
      obtain ⟨σ', H', J, q⟩ := hs
      exact ⟨V.non, H', J.os, J.bare, J.base, J.hok, rfl, q⟩
    | brk =>
      obtain ⟨_, _, _, q⟩ := hs
      exact False.elim q
    | cont =>
      obtain ⟨_, _, _, q⟩ := hs
      exact False.elim q
  have hX : ∀ {h : Heap}, (∀ b o, h₁.get? b = some o → h.get? b = some o) → K.In h := fun k2 => KX.keeps fun b o e => k2 b o (kp b o e)
  obtain ⟨u0, hu0, rv0⟩ := r.get ha0
  obtain rfl : u0 = Value.ref a := rv0
  have ndP : ps.Nodup := by
    have q := S.nd.sublist (List.take_sublist (ps.length + [("__class__" : Str)].length) N)
    rw [S.pre] at q
    exact (List.nodup_append.mp q).1
  have hself := zip_look ndP h0 hu0
  obtain ⟨nm, q0, N0, bs, bm, sn, sub, ab, col, dd, k0, k1, k2, k3, k5, hC, hbm⟩ := SC.ox.cls
  have hcl : PySem.W.clsIn K D = some { name := nm, bases := bs, mro := .ref D :: bm, ns := N0, qualname := q0, hasDict := true, slotNames := sn, subclasses := sub, abstract := ab, collection := col, hasDel := false } := by unfold PySem.W.clsIn; rw [hC] <;> rfl
  have hne : a ≠ D := fun z => by
    have := (e0.bs _ _ (e0.mod.kin _ _ hC)).2
    rw [← z, hHa] at this
    cases this
  obtain ⟨t1, ho⟩ := exo_at e0.hok hHa
  have ho1 := kp _ _ ho
  obtain ⟨mb, hm1, hm2⟩ := e0.mod.blt
  have bk1 : ∀ b o, base.get? b = some o → h₁.get? b = some o := fun b o e => kp b o (e0.bs b o e).1
  subst hF
  refine ks_wpAt_execs_cons (ks_wpAt_Expr_any (ks_wpAt_MethodCall ?_ (hev _)) I.quiet (hsw _))
  refine ks_wpAt_super_base hks (S.frk _ (by simp)) (by decide) rfl (kp _ _ (KX _ _ lk)) rfl hp rfl (kp _ _ (KX _ _ hcode)) rfl hvs hfile SC.top ?_
  refine PySem.W.ks_loadName_global S.kind hks (Calls.loadGlobal_builtin (e0.mod.glob.keeps bk1) SC.sup (hm1.keeps bk1) ((hm2 _ (by decide)).trans hbt) ⟨rfl, ?_⟩)
  refine wpAny_loadName_free S.kind (S.frk _ (by simp)) rfl ⟨_, kp _ _ (KX _ _ hcell), rfl⟩ ?_
  refine wpAny_loadName_local S.kind (S.par _ (List.mem_of_getElem? h0)) hns hself ?_
  refine ks_wpAny_isType_cls (kp _ _ (KX _ _ hC)) rfl ⟨rfl, ?_⟩
  refine ks_wpAny_call_super (kp _ _ (KX _ _ hC)) rfl ho1 rfl (fun c z => by cases z) (PySem.W.looks_mroIn (KX.keeps kp) SC.mro) (fun h2 es2 kp2 => ?_)
  have K2 : K.In h2 := hX kp2
  have ho2 := kp2 _ _ ho1
  have I2 : PySem.W.InstAt h2 a _ D none := ⟨ho2, rfl, rfl, trivial⟩
  have hal := SC.along
  unfold PySem.W.ks_superIn at hal
  rw [hcl] at hal
  refine PySem.W.kxs_getMethod PySem.W.kxs_ValueError es2 (PySem.W.looks_opaque K2 SC.opq) (fun A Q E s k q => wpAny_bind ((PySem.W.looks_clsIn K2 hcl) A _ E s k (wpAny_pure q))) rfl K2 hal (I2.type.andThen (PySem.W.looks_mroIn K2 SC.ve)) hne (by decide) ?_
  have kp3 : ∀ b o, h2.get? b = some o → (h2.push (PySem.W.kxs_mw "ValueError.__init__" a)).get? b = some o := fun b o e => Heap.get?_push_of_some _ e
  have hu3 : (h2.push (PySem.W.kxs_mw "ValueError.__init__" a)).get? h2.objs.size = some (PySem.W.kxs_mw "ValueError.__init__" a) := Heap.get?_push_at rfl rfl
  refine PySem.W.kxs_callWith (i := "ValueError.__init__") (x := a) rfl (Calls.evalArgs_plain (Calls.spliced_cons (Calls.Constant_str (pos := p5) (k := tk0) (Calls.spliced_nil ⟨hu3, ?_⟩))))
  refine call_mw (kp3 _ _ (kp2 _ _ (kp _ _ (KX _ _ hC)))) (kp3 _ _ ho2) hu3 (by show 1 ≤ sizeLine; rw [sizeLine_eq]; decide) (fun h4 k4 hx4 ht4 => ?_)
  refine wpAt_of_wpAny ?_
  have J0 := I.kept (h' := h2.push (PySem.W.kxs_mw "ValueError.__init__" a)) (t' := 0) fun b o e => kp3 b o (kp2 b o e)
  have J := J0.write (t' := 0) (h' := h4) (x := a) (e := a) (o := exo a D none) (by rw [hHa]; exact True.intro) (.inl rfl) k4 ⟨_, hx4⟩ (exo_ok hx4)
  have eu : upd H a (exo a D none) = H := by
    funext b
    by_cases hb : b = a
    · rw [hb, upd_same, hHa]
    · rw [upd_ne hb]
  rw [eu] at J
  exact wpAny_mono (ht.run [] _ _ H _ (J.tok _) hq) (fun fl s' hs => fin fl s' hs) fun e s' hs => hs
end Mw

/-! Texts: split, join, slices, int(text), signs, text * int; unpacking a list; range with a step -/
namespace Mw
open PySem PySem.Spec PyProof.Rows L2
section
variable {α β γ δ ρ : Type} {K : PySem.W.Frag} {fm : Fm} {σ : L2.St} {G G' H H' : Hp} {O : Own}
variable {te ta tb tc td : TE} {R : Rp α} {S : Rp β} {T : Rp γ} {m : Res α} {n : Res β}
variable {D : Ends} {tr tt tu tw : TS} {Q : ρ → Prop}
theorem strs_of : ∀ {vs : List V} {xs : List Str}, RLs rS K G vs xs → vs = xs.map V.str
  | _, _, .nil => rfl
  | _, _, .cons h t => by
    cases (show _ = V.str _ from h)
    rw [strs_of t]
    rfl
theorem strs_to : ∀ (xs : List Str), RLs rS K G (xs.map V.str) xs
  | [] => .nil
  | x :: xs => .cons rfl (strs_to xs)
/-- x.isdigit() -/
def rIsD : V → List V → Hp → VK → Prop := fun x xs H Q => ∃ a, x = L2.V.str a ∧ xs = [] ∧ True ∧ Q (L2.V.bl (Txt.isdigit a)) H
def isdM (a : Res Str) : Res Bool := a.bind fun x => .ok (Txt.isdigit x)
theorem e_isd {a : Res Str} (ha : EvE K fm ta σ G O rS a) : EvE K fm (tM0 rIsD ta) σ G O rB (isdM a) := fun G1 H1 e k Q q =>
  ha G1 H1 e k _ (Res.wp_mono (Res.wp_bind q) (fun x q v G2 H2 s r => by
    cases (show v = .str x from r)
    exact ⟨⟨x, rfl⟩, x, rfl, rfl, trivial, q _ G2 H2 s rfl⟩) fun _ _ z => z)
/-- x.split(y) -/
def rSpl : V → List V → Hp → VK → Prop := fun x xs H Q => ∃ a b, x = L2.V.str a ∧ xs = [L2.V.str b] ∧ (b.length == 0) = false ∧ a.length + 2 ≤ sizeLine ∧ rNewStrs (Txt.split a b) H Q
def splM (a b : Res Str) : Res (List Str) := Res.bind2 (fun x y => if (y.length == 0) = false ∧ x.length + 2 ≤ lim then .ok (Txt.split x y) else .stuck) a b
theorem n_spl {a b : Res Str} (ha : EvE K fm ta σ G O rS a) (hb : EvE K fm tb σ G O rS b) : EvN K fm (tM1 rSpl ta tb) σ G O rS (splM a b) := fun G1 H1 e k Q q =>
  ha G1 H1 e k _ (Res.wp_mono (Res.wp_bind q) (fun x q v G2 H2 s r => by
    cases (show v = .str x from r)
    exact ⟨⟨x, rfl⟩, hb G2 H2 (e.trans s.gg) (k.stp s) _ (Res.wp_mono (Res.wp_bind q) (fun y q w G3 H3 s' r' => by
      cases (show w = .str y from r')
      dsimp only at q
      by_cases h : (y.length == 0) = false ∧ x.length + 2 ≤ lim
      · rw [if_pos h] at q
        have ss := s.trans s'
        exact ⟨x, y, rfl, rfl, h.1, by rw [← lim_eq]; exact h.2, fun p hp => q p _ G3 _ (ss.trans (Stp.grow ss.gh (same_new hp))) (same_back ss.hh hp) (same_back ss.gh hp) upd_same (strs_to _)⟩
      · rw [if_neg h] at q; exact q.elim) fun _ _ z => z)⟩) fun _ _ z => z)
/-- x.join(list) -/
def rJn (K : PySem.W.Frag) : V → List V → Hp → VK → Prop := fun x xs H Q => ∃ a p, ∃ ys : List Str, x = L2.V.str a ∧ xs = [L2.V.ref p] ∧ (SqL K H p (ys.map L2.V.str) ∨ SqT K H p (ys.map L2.V.str)) ∧ (ys.map (·.length)).sum + ys.length * a.length ≤ 16777216 ∧ Q (L2.V.str (Txt.join a ys)) H
def jnM (a : Res Str) (b : Res (List Str)) : Res Str := Res.bind2 (fun x ys => if (ys.map (·.length)).sum + ys.length * x.length ≤ lim then .ok (Txt.join x ys) else .stuck) a b
theorem lim_16 : lim = 16777216 := by rw [lim_eq, sizeLine_eq]
theorem e_jn {a : Res Str} {b : Res (List Str)} (ha : EvE K fm ta σ G O rS a) (hb : EvE K fm tb σ G O (rL rS) b) : EvE K fm (tM1 (rJn K) ta tb) σ G O rS (jnM a b) := fun G1 H1 e k Q q =>
  ha G1 H1 e k _ (Res.wp_mono (Res.wp_bind q) (fun x q v G2 H2 s r => by
    cases (show v = .str x from r)
    exact ⟨⟨x, rfl⟩, hb G2 H2 (e.trans s.gg) (k.stp s) _ (Res.wp_mono (Res.wp_bind q) (fun ys q w G3 H3 s' r' => by
      obtain ⟨p, vs, rfl, hq, rv⟩ := r'
      cases strs_of rv
      dsimp only at q
      by_cases h : (ys.map (·.length)).sum + ys.length * x.length ≤ lim
      · rw [if_pos h] at q
        exact ⟨x, p, ys, rfl, rfl, .inl (same_l (s.trans s').gh hq), by rw [← lim_16]; exact h, q _ G3 H3 (s.trans s') rfl⟩
      · rw [if_neg h] at q; exact q.elim) fun _ _ z => z)⟩) fun _ _ z => z)
/-- int(text) -/
def rIntS : List V → Hp → VK → Prop := fun xs H Q => ∃ a n, xs = [L2.V.str a] ∧ PySem.intText? a = some n ∧ a.length ≤ 640 ∧ Q (L2.V.int n) H
def intSM (a : Res Str) : Res Int := a.bind fun x => if x.length ≤ 640 then optM (PySem.intText? x) else .stuck
theorem e_intS {a : Res Str} (ha : EvE K fm ta σ G O rS a) : EvE K fm (tCB rIntS (tCons ta tNil)) σ G O zI (intSM a) :=
  e_cb (a_one ha) fun G1 H1 x vs k r Q q => by
    obtain ⟨u, rfl, hx⟩ := r
    cases (show u = .str x from hx)
    by_cases h : x.length ≤ 640
    · rw [if_pos h] at q
      cases hi : PySem.intText? x with
      | none => rw [hi] at q; exact q.elim
      | some i =>
        rw [hi] at q
        exact ⟨x, i, rfl, hi, h, q _ G1 H1 (Stp.refl k.gh) rfl⟩
    · rw [if_neg h] at q; exact q.elim
/-- x[lo:hi] -/
def slSM (m : Res Str) (lo hi : Res (Option Int)) : Res Str := m.bind fun x => lo.bind fun l => hi.bind fun u => if x.length ≤ lim then .ok (Txt.slice x l u) else .stuck
theorem e_slS {tl th : TO} {m : Res Str} {lo hi : Res (Option Int)} (h : EvE K fm te σ G O rS m) (h1 : EvO fm tl σ G O lo) (h2 : EvO fm th σ G O hi) : EvE K fm (tSl C8.rSlX te tl th) σ G O rS (slSM m lo hi) := fun G1 H1 e k Q q =>
  h G1 H1 e k _ (Res.wp_mono (Res.wp_bind q) (fun x q v G2 H2 s r => h1 G2 H2 (e.trans s.gg) (k.stp s) _ (Res.wp_mono (Res.wp_bind q) (fun l q G3 H3 s1 =>
    h2 G3 H3 ((e.trans s.gg).trans s1.gg) ((k.stp s).stp s1) _ (Res.wp_mono (Res.wp_bind q) (fun u q G4 H4 s2 => by
      cases (show v = .str x from r)
      by_cases h : x.length ≤ lim
      · rw [if_pos h] at q
        exact ⟨x, rfl, by rw [← lim_eq]; exact h, q _ G4 H4 ((s.trans s1).trans s2) rfl⟩
      · rw [if_neg h] at q; exact q.elim) fun _ _ z => z)) fun _ _ z => z)) fun _ _ z => z)
/-- x in y, of texts -/
def rInS : V → V → Hp → VK → Prop := fun x y H Q => ∃ i j, x = L2.V.str i ∧ y = L2.V.str j ∧ Q (L2.V.bl (!(Builtin.Str.occurrences j i 0 j.length 1).isEmpty)) H
def rNinS : V → V → Hp → VK → Prop := fun x y H Q => ∃ i j, x = L2.V.str i ∧ y = L2.V.str j ∧ Q (L2.V.bl (!(!(Builtin.Str.occurrences j i 0 j.length 1).isEmpty))) H
def inSM (a b : Res Str) : Res Bool := Res.bind2 (fun i j => .ok (!(Builtin.Str.occurrences j i 0 j.length 1).isEmpty)) a b
theorem e_inS {a b : Res Str} (ha : EvE K fm ta σ G O rS a) (hb : EvE K fm tb σ G O rS b) : EvE K fm (tOp rInS ta tb) σ G O rB (inSM a b) :=
  e_op ha hb fun G1 H1 x y u v k ru rv Q q => ⟨x, y, ru, rv, q _ G1 H1 (Stp.refl k.gh) rfl⟩
def ninSM (a b : Res Str) : Res Bool := Res.bind2 (fun i j => .ok (!(!(Builtin.Str.occurrences j i 0 j.length 1).isEmpty))) a b
theorem e_ninS {a b : Res Str} (ha : EvE K fm ta σ G O rS a) (hb : EvE K fm tb σ G O rS b) : EvE K fm (tOp rNinS ta tb) σ G O rB (ninSM a b) :=
  e_op ha hb fun G1 H1 x y u v k ru rv Q q => ⟨x, y, ru, rv, q _ G1 H1 (Stp.refl k.gh) rfl⟩
/-- x * i -/
def rMulS : V → V → Hp → VK → Prop := fun x y H Q => ∃ a i, x = L2.V.str a ∧ y = L2.V.int i ∧ a.length ≤ 16 ∧ -(2 ^ 63 : Int) ≤ i ∧ i ≤ ((1048576 : Nat) : Int) ∧ Q (L2.V.str (Txt.mul a i)) H
theorem op_mulS {X : Cx} : OpR X (binaryOp .Mult) rMulS := by
  intro pins s σ H x y v u Q I rx ry h
  obtain ⟨a, i, rfl, rfl, hl, h1, h2, q⟩ := h
  obtain ⟨t, rfl⟩ := rx
  obtain ⟨t', rfl⟩ := ry
  exact PySem.W.KXi.mul rfl hl h1 h2 fun t2 k _ _ => ⟨.str _, H, I.tok k, ⟨t2, rfl⟩, q⟩
def mulSM (a : Res Str) (b : Res Int) : Res Str := Res.bind2 (fun x i => if x.length ≤ 16 ∧ -(2 ^ 63 : Int) ≤ i ∧ i ≤ ((1048576 : Nat) : Int) then .ok (Txt.mul x i) else .stuck) a b
theorem e_mulS {a : Res Str} {b : Res Int} (ha : EvE K fm ta σ G O rS a) (hb : EvE K fm tb σ G O zI b) : EvE K fm (tOp rMulS ta tb) σ G O rS (mulSM a b) :=
  e_op ha hb fun G1 H1 x y u v k ru rv Q q => by
    by_cases h : x.length ≤ 16 ∧ -(2 ^ 63 : Int) ≤ y ∧ y ≤ ((1048576 : Nat) : Int)
    · rw [if_pos h] at q
      exact ⟨x, y, ru, rv, h.1, h.2.1, h.2.2, q _ G1 H1 (Stp.refl k.gh) rfl⟩
    · rw [if_neg h] at q; exact q.elim
/-- x += e, texts -/
def augSM {ρ : Type} (x : Str) (m : Res Str) (mk : Str → Res ρ) : Res ρ := m.bind fun y => if x.length + y.length ≤ lim then mk (x ++ y) else .stuck
theorem w_augS {i : Nat} {x : Str} {m : Res Str} {mk : Str → Res ρ} (hx : σ[i]? = some (some (.str x))) (he : EvE K fm te σ G O rS m) (hs : Hs fm G O H) (hm : Wp (augSM x m mk) Q fm.xw)
    (k : ∀ y G' H', Same G G' → Hs fm G' O H' → Wp (mk (x ++ y)) Q fm.xw → tr D (σ.set i (some (.str (x ++ y)))) H') : tSeq (tAug i te rAddS) tr D σ H :=
  ⟨.str x, hx, he G H (Same.refl _) hs.kn _ (Res.wp_mono (Res.wp_bind hm.out) (fun y q v G2 H2 s r => by
    cases (show v = .str y from r)
    by_cases h : x.length + y.length ≤ lim
    · rw [if_pos h] at q
      exact ⟨x, y, rfl, rfl, by rw [← lim_eq]; exact h, k y G2 H2 s.gg (hs.stp s) (.mk q)⟩
    · rw [if_neg h] at q; exact q.elim) fun _ _ z => z)⟩
/-- for c in text -/
def sgL (x : Str) : List Str := x.cps.toList.map fun c => ⟨#[c]⟩
theorem its_ok (x : Str) : ItOk K G [] rS (Its x) (sgL x) where
  go := fun i G1 H a b _ hi => by
    show i < x.cps.size
    rw [sgL, List.length_map, Array.length_toList] at hi
    exact hi
  stop := fun G1 H a b _ => by
    show x.cps.size ≤ (sgL x).length
    rw [sgL, List.length_map, Array.length_toList]
    exact Nat.le_refl _
  yld := fun i G1 H v H' a b _ hi y => by
    obtain ⟨e, c, hc, ev⟩ := y
    subst e ev
    exact ⟨⟨#[c]⟩, G1, by rw [sgL, List.getElem?_map, Array.getElem?_toList, hc]; rfl, Stp.refl b, rfl⟩
theorem i_str {m : Res Str} (h : EvE K fm te σ G O rS m) : EvI K fm (iStr te) σ G O [] rS (m.bind fun x => .ok (sgL x)) := fun G1 H1 e k Q q =>
  h G1 H1 e k _ (Res.wp_mono (Res.wp_bind q) (fun x q v G2 H2 s r => by
    cases (show v = .str x from r)
    exact ⟨x, rfl, q _ G2 H2 s (its_ok x)⟩) fun _ _ z => z)
/-- range(lo, hi, 2) -/
def rg2L (lo : Int) (n : Nat) : List Int := (List.range n).map fun i => lo + (i : Nat) * 2
theorem itc_ok (lo : Int) (n : Nat) : ItOk K G [] zI (Itc lo 2 n) (rg2L lo n) where
  go := fun i G1 H a b _ hi => by
    show i < n
    rw [rg2L, List.length_map, List.length_range] at hi
    exact hi
  stop := fun G1 H a b _ => by
    show n ≤ (rg2L lo n).length
    rw [rg2L, List.length_map, List.length_range]
    exact Nat.le_refl _
  yld := fun i G1 H v H' a b _ hi y => by
    obtain ⟨e, ev⟩ := y
    subst e ev
    have hi : i < n := by rw [rg2L, List.length_map, List.length_range] at hi; exact hi
    exact ⟨_, G1, by simp [rg2L, hi], Stp.refl b, rfl⟩
def rng3M (a b : Res Int) : Res (List Int) := a.bind fun i => b.bind fun j => if Builtin.Range.small i j 2 = true ∧ 0 ≤ Builtin.Range.rangeSize i j 2 then .ok (rg2L i (Builtin.Range.rangeSize i j 2).toNat) else .stuck
theorem i_rng3 {a b : Res Int} (h : EvE K fm ta σ G O zI a) (h' : EvE K fm tb σ G O zI b) : EvI K fm (iRng3 (tCons ta (tCons tb (tCons (tC (.int 2)) tNil)))) σ G O [] zI (rng3M a b) := fun G1 H1 e k Q q =>
  h G1 H1 e k _ (Res.wp_mono (Res.wp_bind q) (fun i q v G2 H2 s r =>
    h' G2 H2 (e.trans s.gg) (k.stp s) _ (Res.wp_mono (Res.wp_bind q) (fun j q w G3 H3 s' r' => by
      cases (show v = .int i from r)
      cases (show w = .int j from r')
      by_cases hh : Builtin.Range.small i j 2 = true ∧ 0 ≤ Builtin.Range.rangeSize i j 2
      · rw [if_pos hh] at q
        exact ⟨i, j, 2, _, rfl, ⟨by decide, by decide, hh.1, (Int.toNat_of_nonneg hh.2).symm⟩, q _ G3 H3 (s.trans s') (itc_ok i _)⟩
      · rw [if_neg hh] at q; exact q.elim) fun _ _ z => z)) fun _ _ z => z)
/-- a list of three, unpacked -/
def rL3 (R : Rp α) : Rp (α × α × α) := ⟨fun K G v a => ∃ p vs, v = .ref p ∧ SqL K G p vs ∧ (rsC R (rsC R (rs1 R))).r K G vs a, fun e ⟨p, vs, a, b, c⟩ => ⟨p, vs, a, same_l e b, (rsC R (rsC R (rs1 R))).mono e c⟩⟩
def as3 : List α → Res (α × α × α)
  | [a, b, c] => .ok (a, b, c)
  | _ => .stuck
def un3M (m : Res (List α)) : Res (α × α × α) := m.bind as3
theorem e_L3 {m : Res (List α)} (h : EvE K fm te σ G O (rL R) m) : EvE K fm te σ G O (rL3 R) (un3M m) := fun G1 H1 e k Q q =>
  h G1 H1 e k _ (Res.wp_mono (Res.wp_bind q) (fun xs q v G2 H2 s r => by
    obtain ⟨p, vs, rfl, hq, rv⟩ := r
    cases rv with
    | nil => exact False.elim q
    | cons h1 rv => cases rv with
      | nil => exact False.elim q
      | cons h2 rv => cases rv with
        | nil => exact False.elim q
        | cons h3 rv => cases rv with
          | nil =>
            have z := q (.ref p) G2 H2 s
            exact z ⟨p, _, rfl, hq, _, _, rfl, h1, _, _, rfl, h2, _, rfl, h3⟩
          | cons h4 rv => exact False.elim q) fun _ _ z => z)
theorem tg_unl3 {i j k : Nat} {R : Rp α} : Tgt K (gUnl K 3 (gCons (gName i) (gCons (gName j) (gCons (gName k) gNil)))) (rL3 R) (rsC R (rsC R (rs1 R))) [i, j, k] := fun G H v x σ Q e r q => by
  obtain ⟨p, vs, ev, hq, rs⟩ := r
  obtain ⟨v1, r1, e1, h1, v2, r2, e2, h2, v3, e3, h3⟩ := id rs
  subst ev e1 e2 e3
  exact ⟨p, _, rfl, same_l e hq, rfl, v1, _, rfl, v2, _, rfl, v3, _, rfl, rfl, q _ rs⟩
/-- len of a text -/
def lenSM (a : Res Str) : Res Int := a.bind fun x => if x.length ≤ lim then .ok (x.length : Int) else .stuck
theorem e_lenS {a : Res Str} (ha : EvE K fm ta σ G O rS a) : EvE K fm (tCB (Mw.rLen K) (tCons ta tNil)) σ G O zI (lenSM a) :=
  e_cb (a_one ha) fun G1 H1 x vs k r Q q => by
    obtain ⟨u, rfl, hx⟩ := r
    cases (show u = .str x from hx)
    by_cases h : x.length ≤ lim
    · rw [if_pos h] at q
      exact ⟨_, x.length, rfl, ⟨by rw [← lim_eq]; exact h, rfl⟩, q _ G1 H1 (Stp.refl k.gh) rfl⟩
    · rw [if_neg h] at q; exact q.elim
/-- isinstance of a value of one of two kinds -/
def wh {α β : Type} (a b : String) : Sum α β → String
  | .inl _ => a
  | .inr _ => b
def isl {α β : Type} : Sum α β → Bool
  | .inl _ => true
  | .inr _ => false
def isr {α β : Type} : Sum α β → Bool
  | .inl _ => false
  | .inr _ => true
theorem ty_U {a b : String} (h1 : TyIs K R fun _ => a) (h2 : TyIs K S fun _ => b) : TyIs K (rU R S) (wh a b) := fun G H v x e r => by
  cases x with
  | inl y => exact h1 G H v y e r
  | inr y => exact h2 G H v y e r
theorem isi_l {α β : Type} {a b c : String} (h1 : kitB a c = some true) (h2 : kitB b c = some false) : ∀ x : Sum α β, kitB (wh a b x) c = some (isl x)
  | .inl _ => h1
  | .inr _ => h2
theorem isi_r {α β : Type} {a b c : String} (h1 : kitB a c = some false) (h2 : kitB b c = some true) : ∀ x : Sum α β, kitB (wh a b x) c = some (isr x)
  | .inl _ => h1
  | .inr _ => h2
theorem ip_addS {X : Cx} : PIp X .Add rAddS := fun pins s σ H x y u v Q I rx ry h => iop_add_str pins s σ H x y u v Q I rx ry h
theorem b_ValueError : bootBuiltins "ValueError" = some (.type "ValueError") := by decide +kernel
end
end Mw

/-! an own exception with one field: made, raised, caught -/
namespace Mw
open PySem PySem.Spec PyProof.Rows L2 NdefX
/-- what C.__init__(self, y) promises, C over ValueError: the field fld -/
def spInit (C : Addr) (fld : Str) : Sp := fun vs H Q _ => ∃ a y, vs = [L2.V.ref a, y] ∧ H a = some (exo a C none) ∧ ∀ d, H d = none → d ≠ a → Q .non (upd (upd H d (exd d [(fld, y)])) a (exo a C (some d)))
/-- an own exception class whose __init__ takes one value -/
structure XIn (P : Program) (w : World) (K : PySem.W.Frag) (mg : Str → Option Value) (base : Heap) (C : Addr) (k : Nat) (p fld : Str) : Prop where
  ox : OexC K C
  no : PySem.W.findIn K (.ref C) fld = some none
  fn : ∃ f fd, PySem.W.findIn K (.ref C) "__init__" = some (some (.ref f)) ∧ PySem.W.typeIn K (.ref f) = some (.type "function") ∧ FnOk P w K mg base (L2.CX P w) k f fd ["self", p] (spInit C fld) ∧ Binds K fd ["self", p] []
def tMkI (C : Addr) (fld : Str) (ta : TA) : L2.St → Hp → XK → Prop := tMkO C (spInit C fld) [] ta
theorem pmk_in {X : Cx} {C : Addr} {x fld p : Str} {k : Nat} {e : Expr} {ta : TA} {pp pos : Pos} {W : WX} (T : XIn X.prog X.w X.K X.mg X.base C k p fld) (hr : Room (k + 1) X.A) (tk : Takes X W) (hg : Gl X x) (hm : X.mg x = some (.ref C)) (ha : PA X [e] ta)
    (hdb : (x == ("__debug__" : Str)) = false := by decide) (he : starEach [e] X.env = (false, eval e X.env) :: starEach [] X.env := by rfl) :
    PMk X (.Call (.Name x pp) [e] [] pos) (tMkI C fld ta) := by
  obtain ⟨f, fd, h1, h2, h3, h4⟩ := T.fn
  exact pmk_oex T.ox h1 h2 h3 hr h4 .nil (passes_call tk fun _ _ _ _ z => z.elim) hg hm ha hdb he rfl
section
variable {α ρ : Type} {K : PySem.W.Frag} {fm : Fm} {σ : L2.St} {G H : Hp} {O : Own} {D : Ends} {tr : TS} {Q : ρ → Prop}
theorem w_raiseI {C : Addr} {fld : Str} {k : Nat} {ta : TA} {m : Res Int} (he : EvA K fm ta σ G O (rs1 zI) m) (hs : Hs fm G O H) (hm : Wp (m.bind fun i => (.exc k [(fld, L2.V.int i)] : Res ρ)) Q fm.xw) (hk : fm.cl k = C) :
    tSeq (fun _ σ H => tMkI C fld ta σ H fun cls d H' => (fun (cls : Value) (d : Option Addr) (_ : L2.St) (H : Hp) => fm.E cls d H) cls d σ H') tr D σ H :=
  he G H (Same.refl _) hs.kn _ (Res.wp_mono (Res.wp_bind hm.out) (fun i q vs G2 H2 s r => by
    obtain ⟨u, rfl, hu⟩ := r
    cases (show u = .int i from hu)
    refine ⟨by show 1 ≤ 1000; decide, fun a ha => ⟨a, .int i, rfl, upd_same, fun d hd hne => ⟨rfl, d, [(fld, .int i)], upd_same, ?_, ?_, ?_⟩⟩⟩
    · rw [upd_ne hne, upd_same]
    · rwa [upd_ne hne] at hd
    · have hd2 : H2 d = none := by rwa [upd_ne hne] at hd
      rw [← hk]
      refine q _ (some d) (fun b o hb => ?_) ⟨d, rfl, upd_same⟩
      have h2 : H2 b = some o := (hs.stp s).fr _ _ hb
      have hbd : b ≠ d := fun z => by rw [z, hd2] at h2; cases h2
      have hba : b ≠ a := fun z => by rw [z, ha] at h2; cases h2
      rw [upd_ne hbd, del_ne hba, upd_ne hba, upd_ne hbd, upd_ne hba]
      exact h2) fun _ _ z => z)
end
end Mw

/-! an own exception with one field, caught: isinstance, the field, defs called in the suite that raise nothing -/
namespace Mw
open PySem PySem.Spec PyProof.Rows L2
/-- a def that raises nothing, called wherever there is room, in an except suite too -/
structure FnA (P : Program) (w : World) (K : PySem.W.Frag) (mg : Str → Option Value) (base : Heap) (k : Nat) (f : Addr) (fd : FuncData) (ps : List Str) (sp : Sp) : Prop where
  len : ∀ vs H Q E, sp vs H Q E → vs.length = ps.length
  run : ∀ (A : Around) (outer : List Env) (s : Shared) (H : Hp) (args : Args) (us : List Value) (vs : List V) (Q : VK) (E : XK), L2H.RoomH k A → Env0 P w K mg base A outer s H → BindsTo s fd args (ps.zip us) → Vals vs us → sp vs H Q E →
    codeAny (model P w) A (.call (.ref f) args) (CR CX0 outer P w H s Q E) s
def cxA (P : Program) (w : World) (K : PySem.W.Frag) (mg : Str → Option Value) (base : Heap) (N : List Str) (qual : Str) (scope : Scope) (f : Addr) (cd : Value) (A : Around) (outer : List Env) (s : Shared) (H : Hp) (E : XK) : Cx :=
  { cxOf CX0 P w K mg base N qual scope f cd A outer s H E with calm := false }
theorem inv_startA {P : Program} {w : World} {K : PySem.W.Frag} {mg : Str → Option Value} {base : Heap} {N ps : List Str} {qual : Str} {scope : Scope} {f : Addr} {cd : Value} {A : Around} {outer : List Env} {s s1 : Shared} {H : Hp} {E : XK} {us : List Value} {vs : List V}
    (S : FnScope N ps scope) (e0 : Env0 P w K mg base A outer s H) (hl : vs.length = ps.length) (r : Vals vs us)
    (x : InCallC s s.heap.objs.size (bindL (envOfC qual scope s.heap.objs.size f cd).kindOf (ps.zip us) fun _ => none) (cellsFrom (s.heap.objs.size + 1) scope.names []) (bindC (envOfC qual scope s.heap.objs.size f cd).kindOf (ps.zip us) fun _ => none) s1) :
    Inv (cxA P w K mg base N qual scope f cd A outer s H E) [] (L2.start N vs) H s1 := by
  have e1 : Env0 P w K mg base { A with handled := none } outer s H := ⟨e0.frames, e0.mod, e0.bs, e0.bsz, e0.funs, e0.frf, e0.hok, e0.bare⟩
  have I : Inv (cxOf CX0 P w K mg base N qual scope f cd { A with handled := none } outer s H E) [] (L2.start N vs) H s1 := inv_start S rfl e1 hl r x
  have o := I.ok
  exact ⟨⟨o.mod, o.kind, o.glob, o.blt, o.above, o.inj, o.has, o.cab, fun z => Bool.noConfusion (show false = true from z), Around.frames_deeper e0.frames, o.stk, o.exf, o.bs, o.bsz, o.noex, o.exfs, o.funs, o.frf⟩, I.os, I.bare, I.base, I.loc, I.cell, I.free, I.freeC, I.pin, I.hok, I.len⟩
theorem fn_ofA {P : Program} {w : World} {K : PySem.W.Frag} {mg : Str → Option Value} {base : Heap} {k : Nat} {f : Addr} {x qual : Str} {st : Stmt} {fd : FuncData} {N ps : List Str} {sp : Sp} (F : Fun K x qual st f fd) (S : FnScope N ps (defScope st))
    (len : ∀ vs H Q E, sp vs H Q E → vs.length = ps.length)
    (hbody : ∀ (cdv : Value) (A : Around) (outer : List Env) (s : Shared) (H : Hp) (vs : List V) (Q : VK) (E : XK), sp vs H Q E →
      ∃ t, PSs (cxA P w K mg base N qual (defScope st) f cdv A outer s H E) (defBody st) t ∧ t { nx := fun _ H' => Q .non H', rt := Q } (L2.start N vs) H) :
    FnA P w K mg base (k + 1) f fd ps sp := by
  obtain ⟨oc, od, kV, doc, pm, an, cdv, ct, osl, rfl, lk, hcd⟩ := F.ex
  refine ⟨len, fun A outer s H args us vs Q E hr e0 hb r hsp => ?_⟩
  have hl := len _ _ _ _ hsp
  have KX : K.In s.heap := e0.mod.kin.keeps fun b o e => (e0.bs b o e).1
  have lim : s.heap.NoLimit := e0.mod.nolimit.keeps fun b o e => (e0.bs b o e).1
  have hkind : ∀ y ∈ ps.zip us, (defScope st).names.lookup y.1 = some .local ∨ ((defScope st).names.lookup y.1 = some .cell ∧ ((cellsFrom (s.heap.objs.size + 1) (defScope st).names []).lookup y.1).isSome = true) := fun ⟨n, v⟩ hy => by
    rcases S.par n (List.of_mem_zip hy).1 with q | q
    · exact .inl q
    · exact .inr ⟨q, PySem.W.cellsFrom_some _ _ _ (.inl q)⟩
  refine codeAny_call_function hr.depth (KX _ _ lk) rfl S.co S.gen rfl (PySem.W.codeRec_of KX hcd) (hb _ _ _ _ ?_)
  refine wpAny_newFunctionEnv_cells S.kind hkind fun env he s1 x => ?_
  subst he
  refine ⟨lim.keeps x.toInCall.keep, codeAny_func ?_⟩
  obtain ⟨t, ht, hq⟩ := hbody cdv A outer s H vs Q E hsp
  have I : Inv (cxA P w K mg base N qual (defScope st) f cdv A outer s H E) [] (L2.start N vs) H s1 := inv_startA S e0 hl r x
  refine wpAny_mono (ht.run [] s1 (L2.start N vs) H _ I hq) (fun fl s' hs => ?_) fun e s' hs => hs
  have fin : ∀ {σ' : L2.St} {H' : Hp} {v : V} {u : Value}, Inv (cxA P w K mg base N qual (defScope st) f cdv A outer s H E) [] σ' H' s' → RelV v u → Q v H' → CE outer P w H s Q u s' :=
    fun {σ' H' v u} J rv q => ⟨v, H', J.os, J.bare, J.base, J.hok, rv, q⟩
  cases fl with
  | ret u =>
    obtain ⟨v, σ', H', J, rv, q⟩ := hs
    exact fin J rv q
  | next =>
    obtain ⟨σ', H', J, q⟩ := hs
    exact fin (v := V.non) (u := Value.none) J rfl q
  | brk =>
    obtain ⟨_, _, _, q⟩ := hs
    exact False.elim q
  | cont =>
    obtain ⟨_, _, _, q⟩ := hs
    exact False.elim q
theorem pe_callA {X : Cx} {k : Nat} {f : Addr} {fd : FuncData} {ps : List Str} {sp : Sp} {E : L2.St → XK} {x : Str} {q pos : Pos} {e : Expr} {es : List Expr} {t : TA} (F : FnA X.prog X.w X.K X.mg X.base k f fd ps sp) (hr : L2H.RoomH k X.A) (hg : Gl X x) (hm : X.mg x = some (.ref f)) (hk : PySem.W.keepIn X.K (.ref f) = true) (hb : Binds X.K fd ps [])
    (ha : PA X (e :: es) t) (hdb : (x == ("__debug__" : Str)) = false := by decide) (he : starEach (e :: es) X.env = (false, eval e X.env) :: starEach es X.env := by rfl) (hpl : (backTo pos (starEach es X.env)).any (·.1) = false := by rfl) :
    PE X (.Call (.Name x q) (e :: es) [] pos) (tCallS sp E t) := by
  refine ⟨fun pins s σ H Q I h => ?_⟩
  refine wpAny_Call_Name_kw (ld_glob I hg hm ?_ hdb)
  refine PySem.W.callWith_K (h₀ := X.base) I.ok.mod.kin hk (thn (ha.run pos pins s σ H _ I h) fun us s1 ⟨vs, H1, I1, r, q⟩ => ⟨I1.kIn, ?_⟩) he hpl
  have hl : us.length = ps.length := by rw [← r.length]; exact F.len _ _ _ _ q
  have b := hb s1 us I1.kIn (by rw [List.append_nil]; exact hl)
  rw [List.append_nil] at b
  show wpAny _ _ (call (.ref f) us) _ _ _
  refine wpAny_call (codeAny_mono (F.run X.A X.stack s1 H1 ⟨us, []⟩ us vs Q (E σ) hr I1.env0 b r q) fun r s' hq => ?_)
  cases r with
  | error e => exact hq.elim
  | ok fl =>
    cases fl with
    | ret u => exact I1.after hq
    | next => exact False.elim hq
    | brk => exact False.elim hq
    | cont => exact False.elim hq
/-- such a def under its name -/
structure CalA (P : Program) (w : World) (K : PySem.W.Frag) (mg : Str → Option Value) (base : Heap) (x : Str) (k : Nat) (ps : List Str) (sp : Sp) where
  f : Addr
  fd : FuncData
  ok : FnA P w K mg base k f fd ps sp
  mgx : mg x = some (.ref f)
  kp : PySem.W.keepIn K (.ref f) = true
  bd : Binds K fd ps []
theorem roomA {k : Nat} {A : Around} (r : Room k A) : L2H.RoomH k A := ⟨r.dp, r.un⟩
theorem roomS {k : Nat} {A : Around} {v : Option Value} (r : Room k A) : L2H.RoomH k (A.mark v) := ⟨r.dp, r.un⟩
theorem xfC {K : PySem.W.Frag} {C : Addr} (h : ExcC K C) : XfC K C := ⟨h.hg, h.hk, h.hs, h.hd⟩
/-! ### isinstance of an exception that has its dict -/
def rIsEd (K : PySem.W.Frag) (C a dd : Addr) : List V → Hp → VK → Prop := fun xs H Q => ∃ (c : V) (cv : Value) (b : Bool) (fs : List (Str × V)), xs = [.ref a, c] ∧ (∀ u, RelV c u → u = cv) ∧ PySem.W.kitOne K (.ref C) cv = some b ∧ H dd = some (.xd fs) ∧ Q (.bl b) H
theorem call_isEd {X : Cx} {a D dd : Addr} {oe : Obj} {pn : List (Addr × Obj)} (C : ExcC X.K D) (hz : Zc (.ref D) (some dd) oe) (hf : ∃ vs, oe.data = .fields vs) : CallR (X.suite a ((a, oe) :: pn)) (.builtin "isinstance") (rIsEd X.K D a dd) := by
  intro pins s σ H xs us Q I r h
  obtain ⟨c, cv, b, fs, rfl, hcv, e, hdd, q⟩ := h
  cases r with
  | cons rx rr =>
    cases rr with
    | cons rt rr =>
      cases rr
      cases rx
      have ec := hcv _ rt
      subst ec
      obtain ⟨hget, _⟩ := I.pin (a, oe) (List.mem_append.mpr (.inl List.mem_cons_self))
      obtain ⟨vs, hv⟩ := hf
      have hx : ObjOk X.prog X.w H s.heap dd (.xd fs) := I.hok dd _ hdd
      obtain ⟨mA, hns, _⟩ := hx
      obtain ⟨od, ho, _⟩ := lookIn_ns hns
      have J : PySem.W.InstAt s.heap a oe D (some od) := by
        obtain ⟨oc, od', oda, osl⟩ := oe
        obtain ⟨h1, h2⟩ := hz
        dsimp only at h1 h2 hv
        subst h1 h2 hv
        exact ⟨hget, rfl, rfl, ho⟩
      have hcl : (PySem.W.clsIn X.K D).isSome = true := by
        have := C.hd
        unfold PySem.W.hasDictIn at this
        cases hc : PySem.W.clsIn X.K D with
        | none => rw [hc] at this; cases this
        | some cd => rfl
      exact PySem.W.kia_one (PySem.W.kitx_exc hcl C.hg C.hk C.hs C.ha C.hn C.ht C.hm) I.kIn J e (fun z => nomatch z) fun tk => ⟨.bl b, H, I.kept (t' := tk) fun _ _ z => z, rfl, q⟩
/-! ### try .. except, one class, one field -/
noncomputable def tSu1 (C : Addr) (th : Addr → Addr → TS) (a : Addr) (cls : Value) (d : Option Addr) : TS := by
  classical exact match d with | some dd => if cls = .ref C then th a dd else tNever | none => tNever
theorem tSu1_eq {C a dd : Addr} {th : Addr → Addr → TS} : tSu1 C th a (.ref C) (some dd) = th a dd := by
  show (if Value.ref C = .ref C then th a dd else tNever) = _
  rw [if_pos rfl]
theorem tSu1_ok {X : Cx} {C : Addr} {th : Addr → Addr → TS} {sts : List Stmt} (hd : ∀ (a : Addr) (oe : Obj) (dd : Addr) (pn : List (Addr × Obj)), Zc (.ref C) (some dd) oe → (∃ vs, oe.data = .fields vs) → PSs (X.suite a ((a, oe) :: pn)) sts (th a dd))
    (a : Addr) (oe : Obj) (cls : Value) (d : Option Addr) (pn : List (Addr × Obj)) (hz : Zc cls d oe) (hf : ∃ vs, oe.data = .fields vs) : PSs (X.suite a ((a, oe) :: pn)) sts (tSu1 C th a cls d) := by
  classical
  cases d with
  | none => exact pss_never
  | some dd =>
    show PSs _ _ (if cls = .ref C then th a dd else tNever)
    split
    · rename_i e
      subst e
      exact hd a oe dd pn hz hf
    · exact pss_never
def errL {ρ : Type} (fld : Str) (f : Int → Res ρ) (c : Nat) (fs : List (Str × V)) : Res ρ := match c, fs with
  | 0, [(g, .int i)] => if g = fld then f i else .stuck
  | _, _ => .stuck
section
variable {α ρ : Type} {K : PySem.W.Frag} {fm : Fm} {σ : L2.St} {G G' H H' : Hp} {O : Own} {D : Ends} {tr : TS} {te : TE} {Q : ρ → Prop}
theorem e_isEd {i : Nat} {a C dd : Addr} {fs : List (Str × V)} {c : V} {cv : Value} {b : Bool} (hx : σ[i]? = some (some (.ref a))) (hc : ∀ u, RelV c u → u = cv) (hk : PySem.W.kitOne K (.ref C) cv = some b) (hd : fm.F dd = some (.xd fs)) : EvE K fm (tCB (rIsEd K C a dd) (tCons (tVar i) (tCons (tC c) tNil))) σ G O rB (.ok b) := fun G1 H1 e k Q q =>
  ⟨_, hx, c, cv, b, fs, rfl, hc, hk, k.fr _ _ hd, q (.bl b) G1 H1 (Stp.refl k.gh) rfl⟩
theorem e_xf {i : Nat} {a C dd : Addr} {fld : Str} {y : Int} (hx : σ[i]? = some (some (.ref a))) (hd : fm.F dd = some (.xd [(fld, .int y)])) : EvE K fm (tXf a (.ref C) (some dd) C fld (tVar i)) σ G O zI (.ok y) := fun G1 H1 e k Q q =>
  ⟨_, hx, rfl, rfl, dd, [(fld, .int y)], .int y, rfl, k.fr _ _ hd, by simp [List.lookup], q (.int y) G1 H1 (Stp.refl k.gh) rfl⟩
/-- what a def of one number promises that says it is one -/
def spOne : Sp := fun vs H Q _ => ∃ i, vs = [L2.V.int i] ∧ Q (.bl true) H
theorem e_one {E : L2.St → XK} {m : Res Int} (h : EvE K fm te σ G O zI m) : EvE K fm (tCallS spOne E (tCons te tNil)) σ G O rB (m.bind fun _ => .ok true) := fun G1 H1 e k Q q =>
  h G1 H1 e k _ (Res.wp_mono (Res.wp_bind q) (fun i q v G2 H2 s r => by
    cases (show v = .int i from r)
    exact ⟨i, rfl, q _ G2 H2 s rfl⟩) fun _ _ z => z)
theorem w_tryL {tb : WX → TS} {Wout : WX} {c : Value} {i : Nat} {fld : Str} {th : Addr → Addr → TS} {mb : Res Unit} {hd : Int → Res ρ} {rest : Res ρ}
    (hs : Hs fm G [] H) (hm : Wp (tryM mb (errL fld hd) (fun _ => rest)) Q fm.xw)
    (hex : PySem.W.exmOne K (.ref (fm.cl 0)) c = some true)
    (hh : ∀ y a dd H', Hs fm G [] H' → H' dd = some (.xd [(fld, .int y)]) → Wp (hd y) Q fm.xw → th a dd { nx := fun σ' H' => tr D (σ'.set i none) H', rt := D.rt, bk := fun σ' H' => D.bk (σ'.set i none) H', ct := fun σ' H' => D.ct (σ'.set i none) H' } (σ.set i (some (.ref a))) H')
    (hb : ∀ (D' : Ends) (Qb : Unit → Prop) (W : WX), (∀ G' H', Same G G' → Hs ⟨H, G, WE W σ, fm.cl⟩ G' [] H' → Qb () → D'.nx σ H') → Hs ⟨H, G, WE W σ, fm.cl⟩ G [] H → Wp mb Qb (Fm.xw ⟨H, G, WE W σ, fm.cl⟩) → tb W D' σ H)
    (hn : ∀ G' H', Same G G' → Hs fm G' [] H' → Wp rest Q fm.xw → tr D σ H') : tSeq (tTry tb K c i (tSu1 (fm.cl 0) th) Wout) tr D σ H := by
  refine hb _ (fun _ => Wp rest Q fm.xw) _ (fun G' H' a b q => hn G' H' a (hs.stp b.fin) q) (Hs.start hs.gh) (.mk ?_)
  have q := hm.out
  cases mb with
  | ok u => exact .mk q
  | stuck => exact q
  | exc k fs =>
    have q' : (errL fld hd k fs).wp Q fm.xw := q
    unfold errL at q'
    split at q'
    · rename_i g y
      split at q'
      · rename_i hg
        subst hg
        intro H' d e hd'
        obtain ⟨dd, rfl, hdd⟩ := (show ∃ a, d = some a ∧ H' a = some (.xd [(g, .int y)]) from hd')
        refine ⟨true, hex, fun _ a ha => ?_, fun z => nomatch z⟩
        rw [tSu1_eq]
        exact hh y a dd H' (hs.stp (Stp.grow hs.gh e)) hdd (.mk q')
      · exact q'.elim
    · exact q'.elim
/-- within the suite: what stands at its beginning stays -/
theorem Hs.inner (hs : Hs fm G [] H) : Hs ⟨H, G, fm.E, fm.cl⟩ G [] H := Hs.start hs.gh
theorem Wp.inner {m : Res ρ} (hs : Hs fm G [] H) (h : Wp m Q fm.xw) : Wp m Q (Fm.xw ⟨H, G, fm.E, fm.cl⟩) := .mk (Res.wp_mono h.out (fun _ z => z) fun c fs z H' d e x => z H' d (hs.fr.trans e) x)
end
end Mw


namespace G96
open PySem Mw
def m_state_count (p_table : (Int × Int × (List (List (Int × Int))))) : Res Int :=
  (lenM (Res.bind (.ok p_table) fun a => .ok a.2.2))
def m_is_row (p_row : (List (Int × Int))) (p_length : Int) (p_states : Int) (p_answers : Int) : Res Bool :=
  (Res.ite (neM (lenM (.ok p_row)) (.ok p_length))
  (.ok false)
  (allM (lcB (fun (x2 : (Int × Int)) => .ok true) (fun (x2 : (Int × Int)) => (andM (chainM (fun i j => decide (i ≤ j)) (fun i j => decide (i < j)) (.ok (0 : Int)) (.ok x2.1) (.ok p_states)) (chainM (fun i j => decide (i ≤ j)) (fun i j => decide (i < j)) (.ok (0 : Int)) (.ok x2.2) (.ok p_answers)))) (.ok p_row))))
def m_write_table_b5  (p_row : (List (Int × Int))) (p_text : Str) : Res (Str) :=
  (augSM p_text (addSM (jnM (.ok (" " : Str)) (lcB (fun (x3 : (Int × Int)) => .ok true) (fun (x3 : (Int × Int)) => ((fun acc => Res.bind (strIM (.ok x3.1)) fun y => if (acc ++ y).length ≤ lim then (fun acc => Res.bind (.ok (" " : Str)) fun y => if (acc ++ y).length ≤ lim then (fun acc => Res.bind (strIM (.ok x3.2)) fun y => if (acc ++ y).length ≤ lim then (fun acc => .ok acc) (acc ++ y) else .stuck) (acc ++ y) else .stuck) (acc ++ y) else .stuck) Str.empty)) (.ok p_row))) (.ok ("\n" : Str))) fun p_text =>
  (.ok p_text))
def m_write_table (p_table : (Int × Int × (List (List (Int × Int))))) : Res Str :=
  (Res.bind ((fun acc => Res.bind (strIM (Res.bind (.ok p_table) fun a => .ok a.1)) fun y => if (acc ++ y).length ≤ lim then (fun acc => Res.bind (.ok (" " : Str)) fun y => if (acc ++ y).length ≤ lim then (fun acc => Res.bind (strIM (Res.bind (.ok p_table) fun a => .ok a.2.1)) fun y => if (acc ++ y).length ≤ lim then (fun acc => Res.bind (.ok (" " : Str)) fun y => if (acc ++ y).length ≤ lim then (fun acc => Res.bind (strIM (Res.bind (.ok p_table) fun a => m_state_count a)) fun y => if (acc ++ y).length ≤ lim then (fun acc => Res.bind (.ok ("\n" : Str)) fun y => if (acc ++ y).length ≤ lim then (fun acc => .ok acc) (acc ++ y) else .stuck) (acc ++ y) else .stuck) (acc ++ y) else .stuck) (acc ++ y) else .stuck) (acc ++ y) else .stuck) (acc ++ y) else .stuck) Str.empty) fun (p_text : Str) =>
  (Res.bind (Res.bind (Res.bind (.ok p_table) fun a => .ok a.2.2) fun xs => forM m_write_table_b5 xs p_text) (fun (p_text : Str) => (.ok p_text))))
def m_is_number (p_word : Str) : Res Bool :=
  (andM (isdM (.ok p_word)) (eqM (strIM (intSM (.ok p_word))) (.ok p_word)))
def m_read_numbers (p_line : Str) : Res (Option (List Int)) :=
  (Res.bind (splM (.ok p_line) (.ok (" " : Str))) fun (p_words : (List Str)) =>
  (Res.ite (notM (allM (lcB (fun (x2 : Str) => .ok true) (fun (x2 : Str) => (Res.bind (.ok x2) fun a => m_is_number a)) (.ok p_words))))
  (.ok none)
  (someM (lcB (fun (x4 : Str) => .ok true) (fun (x4 : Str) => (intSM (.ok x4))) (.ok p_words)))))
def m_is_head (p_numbers : (Option (List Int))) : Res Bool :=
  (Res.ite (orM (isNM (.ok p_numbers)) (neM (lenM (Res.bind (.ok p_numbers) getM)) (.ok (3 : Int))))
  (.ok false)
  (Res.bind (un3M (Res.bind (.ok p_numbers) getM)) fun (p : (Int × Int × Int)) => match p with
 | (p_inputs, p_outputs, p_states) =>
  (Res.ite (orM (gtM (.ok p_inputs) (.ok (6 : Int))) (orM (notM (chainM (fun i j => decide (i ≤ j)) (fun i j => decide (i ≤ j)) (.ok (1 : Int)) (.ok p_outputs) (.ok (6 : Int)))) (notM (chainM (fun i j => decide (i ≤ j)) (fun i j => decide (i ≤ j)) (.ok (1 : Int)) (.ok p_states) (.ok (32 : Int))))))
  (.ok false)
  (leM (shlM (.ok p_states) (.ok p_inputs)) (.ok (1024 : Int))))))
def m_row_of (p_head : (List Int)) (p_numbers : (Option (List Int))) : Res (Option (List (Int × Int))) :=
  (Res.ite (orM (isNM (.ok p_numbers)) (neM (lenM (Res.bind (.ok p_numbers) getM)) (shlM (.ok (2 : Int)) (idxM (.ok p_head) (.ok (0 : Int))))))
  (.ok none)
  (Res.bind (Res.bind (lcB (fun (x2 : Int) => .ok true) (fun (x2 : Int) => (pairM (idxM (Res.bind (.ok p_numbers) getM) (.ok x2)) (idxM (Res.bind (.ok p_numbers) getM) (addM (.ok x2) (.ok (1 : Int)))))) (rng3M (.ok (0 : Int)) (lenM (Res.bind (.ok p_numbers) getM)))) .ok) fun (p_row : (List (Int × Int))) =>
  (Res.ite (notM (Res.bind (pairM (.ok p_row) (pairM (shlM (.ok (1 : Int)) (idxM (.ok p_head) (.ok (0 : Int)))) (pairM (idxM (.ok p_head) (.ok (2 : Int))) (shlM (.ok (1 : Int)) (idxM (.ok p_head) (.ok (1 : Int))))))) fun a => m_is_row (a.1) (a.2.1) (a.2.2.1) (a.2.2.2)))
  (.ok none)
  (someM (.ok p_row)))))
def m_read_table_b14  (x_ : (Int × Str)) (s_ : (Option (List Int)) × (List (List (Int × Int)))) : Res ((Option (List Int)) × (List (List (Int × Int)))) :=
  match x_ with
 | (p_at, p_line) =>
  match s_ with
 | (p_head, p_rows) =>
  (Res.bind (Res.bind (.ok p_line) fun a => m_read_numbers a) fun (p_numbers : (Option (List Int))) =>
  (Res.ite (eqM (.ok p_at) (.ok (0 : Int)))
  (Res.ite (notM (Res.bind (.ok p_numbers) fun a => m_is_head a))
  (Res.bind (.ok (1 : Int)) fun i => .exc 0 [("line", .int i)])
  (Res.bind (.ok p_numbers) fun (p_head : (Option (List Int))) =>
  (.ok (p_head, p_rows))))
  (Res.bind (Res.bind (pairM (Res.bind (.ok p_head) getM) (.ok p_numbers)) fun a => m_row_of (a.1) (a.2)) fun (p_row : (Option (List (Int × Int)))) =>
  (Res.ite (orM (isNM (.ok p_row)) (gtM (.ok p_at) (idxM (Res.bind (.ok p_head) getM) (.ok (2 : Int)))))
  (Res.bind (addM (.ok p_at) (.ok (1 : Int))) fun i => .exc 0 [("line", .int i)])
  (appM p_rows (Res.bind (.ok p_row) getM) fun p_rows =>
  (.ok (p_head, p_rows)))))))
def m_read_table (p_text : Str) : Res (Int × Int × (List (List (Int × Int)))) :=
  (Res.bind (splM (.ok p_text) (.ok ("\n" : Str))) fun (p_lines : (List Str)) =>
  (Res.bind (someM (consM (.ok (0 : Int)) (consM (.ok (0 : Int)) (consM (.ok (0 : Int)) (.ok []))))) fun (p_head : (Option (List Int))) =>
  (Res.bind (.ok []) fun (p_rows : (List (List (Int × Int)))) =>
  (Res.bind (Res.bind (enumM (sliceM (.ok p_lines) (.ok none) (someM (negM (.ok (1 : Int)))))) fun xs => forM m_read_table_b14 xs (p_head, p_rows)) (fun (s_ : (Option (List Int)) × (List (List (Int × Int)))) => match s_ with
 | (p_head, p_rows) =>
  (Res.ite (orM (neM (idxM (.ok p_lines) (negM (.ok (1 : Int)))) (.ok ("" : Str))) (ltM (lenM (.ok p_rows)) (max2M (.ok (1 : Int)) (idxM (Res.bind (.ok p_head) getM) (.ok (2 : Int))))))
  (Res.bind (lenM (.ok p_lines)) fun i => .exc 0 [("line", .int i)])
  (pairM (idxM (Res.bind (.ok p_head) getM) (.ok (0 : Int))) (pairM (idxM (Res.bind (.ok p_head) getM) (.ok (1 : Int))) (Res.bind (.ok p_rows) .ok)))))))))
def m_law_table_b11 (p_script : (List Int)) (p_at : Int) (p_head : (List Int)) (p_answers : Int) (p_k : Int) (p_rows : (List (List (Int × Int)))) : Res ((List (List (Int × Int)))) :=
  (Res.bind (Res.bind (pairM (Res.bind (pairM (.ok p_script) (addM (addM (.ok p_at) (.ok (1 : Int))) (.ok p_k))) fun a => m_law_far (a.1) (a.2)) (repM (consM (.ok (32 : Int)) (consM (.ok (64 : Int)) (.ok []))) (idxM (consM (.ok (1 : Int)) (consM (.ok (2 : Int)) (consM (.ok (4 : Int)) (.ok [])))) (idxM (.ok p_head) (.ok (0 : Int)))))) fun a => m_law_parts (a.1) (a.2)) fun (p_parts : (List Int)) =>
  (appM p_rows (Res.bind (lcB (fun (x8 : Int) => .ok true) (fun (x8 : Int) => (pairM (modM (Res.bind (idxM (.ok p_parts) (mulM (.ok (2 : Int)) (.ok x8))) .ok) (addM (.ok (1 : Int)) (idxM (.ok p_head) (.ok (2 : Int))))) (modM (Res.bind (idxM (.ok p_parts) (addM (mulM (.ok (2 : Int)) (.ok x8)) (.ok (1 : Int)))) .ok) (.ok p_answers)))) (rng1M (fdivM (lenM (.ok p_parts)) (.ok (2 : Int))))) .ok) fun p_rows =>
  (.ok p_rows)))
def m_law_table_j4 (p_script : (List Int)) (p_at : Int) (p_head : (List Int)) (s_ : Int) : Res (Int × Int × (List (List (Int × Int)))) :=
  match s_ with
 | p_answers =>
  (Res.bind (.ok []) fun (p_rows : (List (List (Int × Int)))) =>
  (Res.bind (Res.bind (rng1M (addM (.ok (1 : Int)) (idxM (.ok p_head) (.ok (2 : Int))))) fun xs => forM (m_law_table_b11 p_script p_at p_head p_answers) xs p_rows) (fun (p_rows : (List (List (Int × Int)))) => (pairM (idxM (.ok p_head) (.ok (0 : Int))) (pairM (addM (.ok (1 : Int)) (idxM (.ok p_head) (.ok (1 : Int)))) (Res.bind (.ok p_rows) .ok))))))
def m_law_table (p_script : (List Int)) (p_at : Int) (p_most : Int) : Res (Int × Int × (List (List (Int × Int)))) :=
  (Res.bind (Res.bind (pairM (Res.bind (pairM (.ok p_script) (.ok p_at)) fun a => m_law_far (a.1) (a.2)) (consM (.ok (3 : Int)) (consM (.ok (6 : Int)) (consM (.ok p_most) (consM (.ok (4 : Int)) (.ok [])))))) fun a => m_law_parts (a.1) (a.2)) fun (p_head : (List Int)) =>
  (Res.bind (.ok (2 : Int)) fun (p_answers : Int) =>
  (Res.ite (eqM (idxM (.ok p_head) (.ok (3 : Int))) (.ok (0 : Int)))
  (Res.bind (idxM (consM (.ok (2 : Int)) (consM (.ok (4 : Int)) (consM (.ok (8 : Int)) (consM (.ok (16 : Int)) (consM (.ok (32 : Int)) (consM (.ok (64 : Int)) (.ok []))))))) (idxM (.ok p_head) (.ok (1 : Int)))) fun (p_answers : Int) =>
  (m_law_table_j4 p_script p_at p_head p_answers))
  (m_law_table_j4 p_script p_at p_head p_answers))))
def m_law_same_table_b8  (p_pair : (Int × Int)) (s_ : Unit) : Res (Tn (Unit) Bool) :=
  match s_ with
 | () =>
  (Res.ite (orM (notM (Res.bind (.ok p_pair) fun _ => .ok true)) (neM (Res.bind (.ok p_pair) fun _ => .ok (2 : Int)) (.ok (2 : Int))))
  (Res.bind (.ok false) fun r => .ok (.rt r))
  (Res.ite (orM (notM (Res.bind (someM (Res.bind (.ok p_pair) fun a => .ok a.1)) fun a => m_law_is_integer a)) (notM (Res.bind (someM (Res.bind (.ok p_pair) fun a => .ok a.2)) fun a => m_law_is_integer a)))
  (Res.bind (.ok false) fun r => .ok (.rt r))
  (.ok (.nx ()))))
def m_law_same_table_b9  (p_row : (List (Int × Int))) (s_ : Unit) : Res (Tn (Unit) Bool) :=
  match s_ with
 | () =>
  (Res.ite (notM (Res.bind (.ok p_row) fun _ => .ok true))
  (Res.bind (.ok false) fun r => .ok (.rt r))
  (Res.bind (Res.bind (.ok p_row) fun xs => forB m_law_same_table_b8 xs ()) (Lp.el (fun (s_ : Unit) => match s_ with
 | () =>
  (.ok (.nx ()))) (fun r => .ok (.rt r)))))
def m_law_same_table (p_actual : (Int × Int × (List (List (Int × Int))))) (p_expected : (Int × Int × (List (List (Int × Int))))) : Res Bool :=
  (Res.ite (orM (notM (Res.bind (.ok p_actual) fun _ => .ok true)) (orM (neM (Res.bind (.ok p_actual) fun _ => .ok (3 : Int)) (.ok (3 : Int))) (notM (Res.bind (Res.bind (.ok p_actual) fun a => .ok a.2.2) fun _ => .ok true))))
  (.ok false)
  (Res.ite (orM (notM (Res.bind (someM (Res.bind (.ok p_actual) fun a => .ok a.1)) fun a => m_law_is_integer a)) (notM (Res.bind (someM (Res.bind (.ok p_actual) fun a => .ok a.2.1)) fun a => m_law_is_integer a)))
  (.ok false)
  (Res.bind (Res.bind (Res.bind (.ok p_actual) fun a => .ok a.2.2) fun xs => forB m_law_same_table_b9 xs ()) (Lp.el (fun (s_ : Unit) => match s_ with
 | () =>
  (eqM (.ok p_actual) (.ok p_expected))) (fun r => .ok r)))))
def m_law_text_b6  (p_row : (List (Int × Int))) (p_text : Str) : Res (Str) :=
  (Res.bind (addSM (addSM (.ok p_text) (jnM (.ok (" " : Str)) (lcB (fun (x4 : (Int × Int)) => .ok true) (fun (x4 : (Int × Int)) => (addSM (addSM (strIM (Res.bind (.ok x4) fun a => .ok a.1)) (.ok (" " : Str))) (strIM (Res.bind (.ok x4) fun a => .ok a.2)))) (.ok p_row)))) (.ok ("\n" : Str))) fun (p_text : Str) =>
  (.ok p_text))
def m_law_text (p_table : (Int × Int × (List (List (Int × Int))))) : Res Str :=
  (Res.bind (addSM (jnM (.ok (" " : Str)) (lcB (fun (x1 : Int) => .ok true) (fun (x1 : Int) => (strIM (.ok x1))) (consM (Res.bind (.ok p_table) fun a => .ok a.1) (consM (Res.bind (.ok p_table) fun a => .ok a.2.1) (consM (lenM (Res.bind (.ok p_table) fun a => .ok a.2.2)) (.ok [])))))) (.ok ("\n" : Str))) fun (p_text : Str) =>
  (Res.bind (Res.bind (Res.bind (.ok p_table) fun a => .ok a.2.2) fun xs => forM m_law_text_b6 xs p_text) (fun (p_text : Str) => (.ok p_text))))
def m_law_numbers_b7  (p_sign : Str) (s_ : Unit) : Res (Tn (Unit) (Option (List Int))) :=
  match s_ with
 | () =>
  (Res.ite (ninSM (.ok p_sign) (.ok ("0123456789" : Str)))
  (Res.bind (.ok none) fun r => .ok (.rt r))
  (.ok (.nx ())))
def m_law_numbers_b9  (p_word : Str) (p_numbers : (List Int)) : Res (Tn ((List Int)) (Option (List Int))) :=
  (Res.ite (orM (eqM (.ok p_word) (.ok ("" : Str))) (andM (gtM (lenSM (.ok p_word)) (.ok (1 : Int))) (eqM (ixSM (.ok p_word) (.ok (0 : Int))) (.ok ("0" : Str)))))
  (Res.bind (.ok none) fun r => .ok (.rt r))
  (Res.bind (Res.bind (Res.bind (.ok p_word) fun x => .ok (sgL x)) fun xs => forB m_law_numbers_b7 xs ()) (Lp.el (fun (s_ : Unit) => match s_ with
 | () =>
  (appM p_numbers (intSM (.ok p_word)) fun p_numbers =>
  (.ok (.nx p_numbers)))) (fun r => .ok (.rt r)))))
def m_law_numbers (p_line : Str) : Res (Option (List Int)) :=
  (Res.bind (.ok []) fun (p_numbers : (List Int)) =>
  (Res.bind (Res.bind (splM (.ok p_line) (.ok (" " : Str))) fun xs => forB m_law_numbers_b9 xs p_numbers) (Lp.el (fun (p_numbers : (List Int)) => (someM (.ok p_numbers))) (fun r => .ok r))))
def m_law_is_head (p_numbers : (Option (List Int))) : Res Bool :=
  (Res.ite (orM (isNM (.ok p_numbers)) (orM (neM (lenM (Res.bind (.ok p_numbers) getM)) (.ok (3 : Int))) (gtM (idxM (Res.bind (.ok p_numbers) getM) (.ok (0 : Int))) (.ok (6 : Int)))))
  (.ok false)
  (Res.ite (orM (ltM (idxM (Res.bind (.ok p_numbers) getM) (.ok (1 : Int))) (.ok (1 : Int))) (orM (gtM (idxM (Res.bind (.ok p_numbers) getM) (.ok (1 : Int))) (.ok (6 : Int))) (orM (ltM (idxM (Res.bind (.ok p_numbers) getM) (.ok (2 : Int))) (.ok (1 : Int))) (gtM (idxM (Res.bind (.ok p_numbers) getM) (.ok (2 : Int))) (.ok (32 : Int))))))
  (.ok false)
  (leM (mulM (idxM (Res.bind (.ok p_numbers) getM) (.ok (2 : Int))) (shlM (.ok (1 : Int)) (idxM (Res.bind (.ok p_numbers) getM) (.ok (0 : Int))))) (.ok (1024 : Int)))))
def m_law_row_b6 (p_head : (List Int)) (x_ : (Int × Int)) (s_ : Unit) : Res (Tn (Unit) (Option (List (Int × Int)))) :=
  match x_ with
 | (p_target, p_answer) =>
  match s_ with
 | () =>
  (Res.ite (orM (geM (.ok p_target) (idxM (.ok p_head) (.ok (2 : Int)))) (geM (.ok p_answer) (shlM (.ok (1 : Int)) (idxM (.ok p_head) (.ok (1 : Int))))))
  (Res.bind (.ok none) fun r => .ok (.rt r))
  (.ok (.nx ())))
def m_law_row (p_head : (List Int)) (p_numbers : (Option (List Int))) : Res (Option (List (Int × Int))) :=
  (Res.ite (orM (isNM (.ok p_numbers)) (neM (lenM (Res.bind (.ok p_numbers) getM)) (mulM (.ok (2 : Int)) (shlM (.ok (1 : Int)) (idxM (.ok p_head) (.ok (0 : Int)))))))
  (.ok none)
  (Res.bind (Res.bind (lcB (fun (x2 : Int) => .ok true) (fun (x2 : Int) => (pairM (idxM (Res.bind (.ok p_numbers) getM) (mulM (.ok (2 : Int)) (.ok x2))) (idxM (Res.bind (.ok p_numbers) getM) (addM (mulM (.ok (2 : Int)) (.ok x2)) (.ok (1 : Int)))))) (rng1M (fdivM (lenM (Res.bind (.ok p_numbers) getM)) (.ok (2 : Int))))) .ok) fun (p_row : (List (Int × Int))) =>
  (Res.bind (Res.bind (.ok p_row) fun xs => forB (m_law_row_b6 p_head) xs ()) (Lp.el (fun (s_ : Unit) => match s_ with
 | () =>
  (someM (.ok p_row))) (fun r => .ok r)))))
def m_law_reading_b14 (p_lines : (List Str)) (p_at : Int) (s_ : (Option (List Int)) × (List (List (Int × Int)))) : Res (Tn ((Option (List Int)) × (List (List (Int × Int)))) (Sum Int (Int × Int × (List (List (Int × Int)))))) :=
  match s_ with
 | (p_head, p_rows) =>
  (Res.bind (Res.bind (idxM (.ok p_lines) (.ok p_at)) fun a => m_law_numbers a) fun (p_numbers : (Option (List Int))) =>
  (Res.ite (eqM (.ok p_at) (.ok (0 : Int)))
  (Res.ite (notM (Res.bind (.ok p_numbers) fun a => m_law_is_head a))
  (Res.bind (inlM (.ok (1 : Int))) fun r => .ok (.rt r))
  (Res.bind (.ok p_numbers) fun (p_head : (Option (List Int))) =>
  (.ok (.nx (p_head, p_rows)))))
  (Res.bind (Res.bind (pairM (Res.bind (.ok p_head) getM) (.ok p_numbers)) fun a => m_law_row (a.1) (a.2)) fun (p_row : (Option (List (Int × Int)))) =>
  (Res.ite (orM (isNM (.ok p_row)) (eqM (lenM (.ok p_rows)) (idxM (Res.bind (.ok p_head) getM) (.ok (2 : Int)))))
  (Res.bind (inlM (addM (.ok p_at) (.ok (1 : Int)))) fun r => .ok (.rt r))
  (appM p_rows (Res.bind (.ok p_row) getM) fun p_rows =>
  (.ok (.nx (p_head, p_rows))))))))
def m_law_reading (p_text : Str) : Res (Sum Int (Int × Int × (List (List (Int × Int))))) :=
  (Res.bind (splM (.ok p_text) (.ok ("\n" : Str))) fun (p_lines : (List Str)) =>
  (Res.bind (.ok none) fun (p_head : (Option (List Int))) =>
  (Res.bind (.ok []) fun (p_rows : (List (List (Int × Int)))) =>
  (Res.bind (Res.bind (rng1M (subM (lenM (.ok p_lines)) (.ok (1 : Int)))) fun xs => forB (m_law_reading_b14 p_lines) xs (p_head, p_rows)) (Lp.el (fun (s_ : (Option (List Int)) × (List (List (Int × Int)))) => match s_ with
 | (p_head, p_rows) =>
  (Res.ite (orM (neM (idxM (.ok p_lines) (negM (.ok (1 : Int)))) (.ok ("" : Str))) (orM (isNM (.ok p_head)) (ltM (lenM (.ok p_rows)) (idxM (Res.bind (.ok p_head) getM) (.ok (2 : Int))))))
  (inlM (lenM (.ok p_lines)))
  (inrM (pairM (idxM (Res.bind (.ok p_head) getM) (.ok (0 : Int))) (pairM (idxM (Res.bind (.ok p_head) getM) (.ok (1 : Int))) (Res.bind (.ok p_rows) .ok)))))) (fun r => .ok r))))))
def m_law_sign_changed (p_text : Str) (p_parts : (List Int)) : Res Str :=
  (Res.bind (ixSM (.ok ("0123456789 \n-+a " : Str)) (modM (Res.bind (idxM (.ok p_parts) (.ok (1 : Int))) .ok) (.ok (16 : Int)))) fun (p_sign : Str) =>
  (Res.bind (modM (Res.bind (idxM (.ok p_parts) (.ok (2 : Int))) .ok) (addM (lenSM (.ok p_text)) (.ok (1 : Int)))) fun (p_at : Int) =>
  (Res.ite (eqM (idxM (.ok p_parts) (.ok (0 : Int))) (.ok (0 : Int)))
  (addSM (addSM (slSM (.ok p_text) (.ok none) (someM (.ok p_at))) (.ok p_sign)) (slSM (.ok p_text) (someM (.ok p_at)) (.ok none)))
  (Res.ite (eqM (idxM (.ok p_parts) (.ok (0 : Int))) (.ok (1 : Int)))
  (addSM (slSM (.ok p_text) (.ok none) (someM (.ok p_at))) (slSM (.ok p_text) (someM (addM (.ok p_at) (.ok (1 : Int)))) (.ok none)))
  (addSM (addSM (slSM (.ok p_text) (.ok none) (someM (.ok p_at))) (.ok p_sign)) (slSM (.ok p_text) (someM (addM (.ok p_at) (.ok (1 : Int)))) (.ok none)))))))
def m_law_word_changed (p_text : Str) (p_parts : (List Int)) : Res Str :=
  (Res.bind (splM (.ok p_text) (.ok ("\n" : Str))) fun (p_lines : (List Str)) =>
  (Res.bind (modM (Res.bind (idxM (.ok p_parts) (.ok (1 : Int))) .ok) (lenM (.ok p_lines))) fun (p_at : Int) =>
  (Res.bind (splM (idxM (.ok p_lines) (.ok p_at)) (.ok (" " : Str))) fun (p_words : (List Str)) =>
  (Res.bind (modM (Res.bind (idxM (.ok p_parts) (.ok (2 : Int))) .ok) (lenM (.ok p_words))) fun (p_place : Int) =>
  (Res.bind (consM (.ok ("" : Str)) (consM (addSM (.ok ("0" : Str)) (idxM (.ok p_words) (.ok p_place))) (consM (addSM (idxM (.ok p_words) (.ok p_place)) (.ok (" " : Str))) (consM (mulSM (.ok ("1" : Str)) (.ok (30 : Int))) (consM (strIM (modM (Res.bind (idxM (.ok p_parts) (.ok (2 : Int))) .ok) (.ok (70 : Int)))) (consM (.ok ("-0" : Str)) (consM (.ok ("32" : Str)) (consM (.ok ("31" : Str)) (consM (.ok ("64" : Str)) (consM (.ok ("63" : Str)) (.ok []))))))))))) fun (p_others : (List Str)) =>
  (setM p_words (.ok p_place) (idxM (catM (.ok p_others) (consM (.ok ("1" : Str)) (consM (.ok ("6" : Str)) (consM (.ok ("7" : Str)) (consM (.ok ("2" : Str)) (consM (.ok ("33" : Str)) (consM (.ok ("16" : Str)) (.ok [])))))))) (modM (Res.bind (idxM (.ok p_parts) (.ok (3 : Int))) .ok) (.ok (16 : Int)))) fun p_words =>
  (jnM (.ok ("\n" : Str)) (catM (catM (sliceM (.ok p_lines) (.ok none) (someM (.ok p_at))) (consM (jnM (.ok (" " : Str)) (.ok p_words)) (.ok []))) (sliceM (.ok p_lines) (someM (addM (.ok p_at) (.ok (1 : Int)))) (.ok none))))))))))
def m_law_line_changed (p_text : Str) (p_parts : (List Int)) : Res Str :=
  (Res.bind (splM (.ok p_text) (.ok ("\n" : Str))) fun (p_lines : (List Str)) =>
  (Res.bind (modM (Res.bind (idxM (.ok p_parts) (.ok (1 : Int))) .ok) (lenM (.ok p_lines))) fun (p_at : Int) =>
  (Res.ite (eqM (idxM (.ok p_parts) (.ok (0 : Int))) (.ok (0 : Int)))
  (jnM (.ok ("\n" : Str)) (catM (sliceM (.ok p_lines) (.ok none) (someM (.ok p_at))) (sliceM (.ok p_lines) (someM (addM (.ok p_at) (.ok (1 : Int)))) (.ok none))))
  (Res.ite (eqM (idxM (.ok p_parts) (.ok (0 : Int))) (.ok (1 : Int)))
  (jnM (.ok ("\n" : Str)) (catM (sliceM (.ok p_lines) (.ok none) (someM (addM (.ok p_at) (.ok (1 : Int))))) (sliceM (.ok p_lines) (someM (.ok p_at)) (.ok none))))
  (Res.ite (eqM (idxM (.ok p_parts) (.ok (0 : Int))) (.ok (2 : Int)))
  (jnM (.ok ("\n" : Str)) (catM (catM (sliceM (.ok p_lines) (.ok none) (someM (.ok p_at))) (consM (.ok ("" : Str)) (.ok []))) (sliceM (.ok p_lines) (someM (.ok p_at)) (.ok none))))
  (Res.ite (eqM (idxM (.ok p_parts) (.ok (0 : Int))) (.ok (3 : Int)))
  (Res.bind (consM (.ok ("7 1 1" : Str)) (consM (.ok ("0 0 1" : Str)) (consM (.ok ("0 7 1" : Str)) (consM (.ok ("0 1 0" : Str)) (consM (.ok ("0 1 33" : Str)) (consM (.ok ("6 1 17" : Str)) (consM (.ok ("0 1 32" : Str)) (consM (.ok ("6 6 16" : Str)) (consM (.ok ("1 1" : Str)) (consM (.ok ("0 1 1 1" : Str)) (consM (.ok ("5 1 32" : Str)) (.ok [])))))))))))) fun (p_heads : (List Str)) =>
  (jnM (.ok ("\n" : Str)) (catM (consM (idxM (.ok p_heads) (modM (Res.bind (idxM (.ok p_parts) (.ok (2 : Int))) .ok) (.ok (11 : Int)))) (.ok [])) (sliceM (.ok p_lines) (someM (.ok (1 : Int))) (.ok none)))))
  (slSM (.ok p_text) (.ok none) (someM (modM (Res.bind (idxM (.ok p_parts) (.ok (2 : Int))) .ok) (addM (lenSM (.ok p_text)) (.ok (1 : Int))))))))))))
def m_law_changed_b9 (p_parts : (List Int)) (p_k : Int) (p_text : Str) : Res (Str) :=
  (Res.bind (sliceM (.ok p_parts) (someM (addM (.ok (1 : Int)) (mulM (.ok (5 : Int)) (.ok p_k)))) (someM (addM (.ok (6 : Int)) (mulM (.ok (5 : Int)) (.ok p_k))))) fun (p_draw : (List Int)) =>
  (Res.ite (ltM (idxM (.ok p_draw) (.ok (4 : Int))) (.ok (3 : Int)))
  (Res.bind (Res.bind (pairM (.ok p_text) (.ok p_draw)) fun a => m_law_sign_changed (a.1) (a.2)) fun (p_text : Str) =>
  (.ok p_text))
  (Res.ite (ltM (idxM (.ok p_draw) (.ok (4 : Int))) (.ok (6 : Int)))
  (Res.bind (Res.bind (pairM (.ok p_text) (.ok p_draw)) fun a => m_law_word_changed (a.1) (a.2)) fun (p_text : Str) =>
  (.ok p_text))
  (Res.bind (Res.bind (pairM (.ok p_text) (.ok p_draw)) fun a => m_law_line_changed (a.1) (a.2)) fun (p_text : Str) =>
  (.ok p_text)))))
def m_law_changed (p_text : Str) (p_cell : Int) : Res Str :=
  (Res.bind (Res.bind (pairM (.ok p_cell) (catM (consM (.ok (3 : Int)) (.ok [])) (repM (consM (.ok (5 : Int)) (consM (.ok (40 : Int)) (consM (.ok (10000 : Int)) (consM (.ok (48 : Int)) (consM (.ok (9 : Int)) (.ok [])))))) (.ok (3 : Int))))) fun a => m_law_parts (a.1) (a.2)) fun (p_parts : (List Int)) =>
  (Res.bind (Res.bind (rng1M (addM (.ok (1 : Int)) (idxM (.ok p_parts) (.ok (0 : Int))))) fun xs => forM (m_law_changed_b9 p_parts) xs p_text) (fun (p_text : Str) => (.ok p_text))))
def m_law_right_text (p_text : Str) : Res Bool :=
  (Res.bind (Res.bind (.ok p_text) fun a => m_law_reading a) fun (p_due : (Sum Int (Int × Int × (List (List (Int × Int)))))) =>
  (Res.ite (Res.bind (.ok p_due) fun o => .ok (isr o))
  (Res.bind (pairM (Res.bind (.ok p_text) fun a => m_read_table a) (getrM (.ok p_due))) fun a => m_law_same_table (a.1) (a.2))
  (tryM (Res.bind (Res.bind (.ok p_text) fun a => m_read_table a) fun _ =>
  (.ok ())) (errL "line" fun y3 =>
  (Res.ite (orM (notM (.ok true)) (notM (.ok true)))
  (.ok false)
  (andM (Res.bind (someM (.ok y3)) fun a => m_law_is_integer a) (eqM (.ok y3) (getlM (.ok p_due)))))) (fun _ =>
  (.ok false)))))
def m_law_large_b11 (p_parts : (List Int)) (p_states : Int) (p_state : Int) (p_k : Int) (p_row : (List (Int × Int))) : Res ((List (Int × Int))) :=
  (Res.bind (addM (addM (idxM (.ok p_parts) (.ok (2 : Int))) (mulM (.ok p_state) (idxM (.ok p_parts) (.ok (3 : Int))))) (mulM (.ok p_k) (idxM (.ok p_parts) (.ok (4 : Int))))) fun (p_number : Int) =>
  (appM p_row (pairM (modM (Res.bind (.ok p_number) .ok) (.ok p_states)) (modM (Res.bind (fdivM (.ok p_number) (.ok (3 : Int))) .ok) (.ok (64 : Int)))) fun p_row =>
  (.ok p_row)))
def m_law_large_b13 (p_parts : (List Int)) (p_inputs : Int) (p_states : Int) (p_state : Int) (p_rows : (List (List (Int × Int)))) : Res ((List (List (Int × Int)))) :=
  (Res.bind (.ok []) fun (p_row : (List (Int × Int))) =>
  (Res.bind (Res.bind (rng1M (shlM (.ok (1 : Int)) (.ok p_inputs))) fun xs => forM (m_law_large_b11 p_parts p_states p_state) xs p_row) (fun (p_row : (List (Int × Int))) => (appM p_rows (Res.bind (.ok p_row) .ok) fun p_rows =>
  (.ok p_rows)))))
def m_law_large (p_parts : (List Int)) : Res (Int × Int × (List (List (Int × Int)))) :=
  (Res.bind (idxM (consM (.ok (0 : Int)) (consM (.ok (5 : Int)) (consM (.ok (6 : Int)) (.ok [])))) (idxM (.ok p_parts) (.ok (1 : Int)))) fun (p_inputs : Int) =>
  (Res.bind (idxM (consM (.ok (32 : Int)) (consM (.ok (32 : Int)) (consM (.ok (16 : Int)) (.ok [])))) (idxM (.ok p_parts) (.ok (1 : Int)))) fun (p_states : Int) =>
  (Res.bind (.ok []) fun (p_rows : (List (List (Int × Int)))) =>
  (Res.bind (Res.bind (rng1M (.ok p_states)) fun xs => forM (m_law_large_b13 p_parts p_inputs p_states) xs p_rows) (fun (p_rows : (List (List (Int × Int)))) => (pairM (.ok p_inputs) (pairM (.ok (6 : Int)) (Res.bind (.ok p_rows) .ok))))))))
def m_law_b9 (p_script : (List Int)) (p_text : Str) (p_k : Int) (s_ : Unit) : Res (Tn (Unit) Bool) :=
  match s_ with
 | () =>
  (Res.ite (notM (Res.bind (Res.bind (pairM (.ok p_text) (Res.bind (pairM (.ok p_script) (addM (.ok (8 : Int)) (.ok p_k))) fun a => m_law_far (a.1) (a.2))) fun a => m_law_changed (a.1) (a.2)) fun a => m_law_right_text a))
  (Res.bind (.ok false) fun r => .ok (.rt r))
  (.ok (.nx ())))
def m_law_j3 (p_script : (List Int)) (s_ : (Int × Int × (List (List (Int × Int))))) : Res Bool :=
  match s_ with
 | p_table =>
  (Res.bind (Res.bind (.ok p_table) fun a => m_law_text a) fun (p_text : Str) =>
  (Res.bind (Res.bind (.ok p_table) fun a => m_write_table a) fun (p_told : Str) =>
  (Res.ite (orM (notM (Res.bind (.ok p_told) fun _ => .ok true)) (orM (neM (.ok p_told) (.ok p_text)) (orM (notM (Res.bind (.ok p_text) fun a => m_law_right_text a)) (notM (Res.bind (.ok ("" : Str)) fun a => m_law_right_text a)))))
  (.ok false)
  (Res.bind (Res.bind (rng1M (.ok (5 : Int))) fun xs => forB (m_law_b9 p_script p_text) xs ()) (Lp.el (fun (s_ : Unit) => match s_ with
 | () =>
  (.ok true)) (fun r => .ok r))))))
def m_law (p_script : (List Int)) : Res Bool :=
  (Res.bind (Res.bind (pairM (Res.bind (pairM (.ok p_script) (.ok (19 : Int))) fun a => m_law_far (a.1) (a.2)) (consM (.ok (20 : Int)) (consM (.ok (3 : Int)) (consM (.ok (10000 : Int)) (consM (.ok (997 : Int)) (consM (.ok (991 : Int)) (.ok []))))))) fun a => m_law_parts (a.1) (a.2)) fun (p_head : (List Int)) =>
  (Res.ite (eqM (idxM (.ok p_head) (.ok (0 : Int))) (.ok (0 : Int)))
  (Res.bind (Res.bind (.ok p_head) fun a => m_law_large a) fun (p_table : (Int × Int × (List (List (Int × Int))))) =>
  (m_law_j3 p_script p_table))
  (Res.bind (Res.bind (pairM (.ok p_script) (pairM (.ok (0 : Int)) (.ok (6 : Int)))) fun a => m_law_table (a.1) (a.2.1) (a.2.2)) fun (p_table : (Int × Int × (List (List (Int × Int))))) =>
  (m_law_j3 p_script p_table))))
end G96

namespace G96
open PySem PySem.Spec L2 Mw
def top (i : Nat) : Stmt := PySem.Challenge.pw_pinsalone_k96_table_texts.main.body.getD i (.Pass ⟨0, 0, 0, 0⟩)
abbrev s_state_count : Stmt := top 9
abbrev N_state_count : List Str := ["table"]
theorem sc_state_count : FnScope N_state_count ["table"] (defScope s_state_count) := ⟨rfl, rfl, rfl, by decide +kernel, rfl, by decide +kernel, by decide +kernel⟩
abbrev s_is_row : Stmt := top 10
abbrev N_is_row : List Str := ["row", "length", "states", "answers", "target", "answer"]
theorem sc_is_row : FnScope N_is_row ["row", "length", "states", "answers"] (defScope s_is_row) := ⟨rfl, rfl, rfl, by decide +kernel, rfl, by decide +kernel, by decide +kernel⟩
abbrev s_write_table : Stmt := top 12
abbrev N_write_table : List Str := ["table", "text", "row", "target", "answer"]
theorem sc_write_table : FnScope N_write_table ["table"] (defScope s_write_table) := ⟨rfl, rfl, rfl, by decide +kernel, rfl, by decide +kernel, by decide +kernel⟩
abbrev s_is_number : Stmt := top 13
abbrev N_is_number : List Str := ["word"]
theorem sc_is_number : FnScope N_is_number ["word"] (defScope s_is_number) := ⟨rfl, rfl, rfl, by decide +kernel, rfl, by decide +kernel, by decide +kernel⟩
abbrev s_read_numbers : Stmt := top 14
abbrev N_read_numbers : List Str := ["line", "words", "word"]
theorem sc_read_numbers : FnScope N_read_numbers ["line"] (defScope s_read_numbers) := ⟨rfl, rfl, rfl, by decide +kernel, rfl, by decide +kernel, by decide +kernel⟩
abbrev s_is_head : Stmt := top 15
abbrev N_is_head : List Str := ["numbers", "inputs", "outputs", "states"]
theorem sc_is_head : FnScope N_is_head ["numbers"] (defScope s_is_head) := ⟨rfl, rfl, rfl, by decide +kernel, rfl, by decide +kernel, by decide +kernel⟩
abbrev s_row_of : Stmt := top 16
abbrev N_row_of : List Str := ["head", "numbers", "row", "k"]
theorem sc_row_of : FnScope N_row_of ["head", "numbers"] (defScope s_row_of) := ⟨rfl, rfl, rfl, by decide +kernel, rfl, by decide +kernel, by decide +kernel⟩
abbrev s_read_table : Stmt := top 17
abbrev N_read_table : List Str := ["text", "lines", "head", "rows", "at", "line", "numbers", "row"]
theorem sc_read_table : FnScope N_read_table ["text"] (defScope s_read_table) := ⟨rfl, rfl, rfl, by decide +kernel, rfl, by decide +kernel, by decide +kernel⟩
abbrev s_law_far : Stmt := top 19
abbrev N_law_far : List Str := ["script", "k"]
theorem sc_law_far : FnScope N_law_far ["script", "k"] (defScope s_law_far) := ⟨rfl, rfl, rfl, by decide +kernel, rfl, by decide +kernel, by decide +kernel⟩
abbrev s_law_parts : Stmt := top 20
abbrev N_law_parts : List Str := ["cell", "sizes", "parts", "rest", "k", "mixed"]
theorem sc_law_parts : FnScope N_law_parts ["cell", "sizes"] (defScope s_law_parts) := ⟨rfl, rfl, rfl, by decide +kernel, rfl, by decide +kernel, by decide +kernel⟩
abbrev s_law_is_integer : Stmt := top 21
abbrev N_law_is_integer : List Str := ["actual"]
theorem sc_law_is_integer : FnScope N_law_is_integer ["actual"] (defScope s_law_is_integer) := ⟨rfl, rfl, rfl, by decide +kernel, rfl, by decide +kernel, by decide +kernel⟩
abbrev s_law_table : Stmt := top 22
abbrev N_law_table : List Str := ["script", "at", "most", "head", "answers", "rows", "k", "parts", "i"]
theorem sc_law_table : FnScope N_law_table ["script", "at", "most"] (defScope s_law_table) := ⟨rfl, rfl, rfl, by decide +kernel, rfl, by decide +kernel, by decide +kernel⟩
abbrev s_law_same_table : Stmt := top 23
abbrev N_law_same_table : List Str := ["actual", "expected", "row", "pair"]
theorem sc_law_same_table : FnScope N_law_same_table ["actual", "expected"] (defScope s_law_same_table) := ⟨rfl, rfl, rfl, by decide +kernel, rfl, by decide +kernel, by decide +kernel⟩
abbrev s_law_text : Stmt := top 24
abbrev N_law_text : List Str := ["table", "text", "row", "number", "pair"]
theorem sc_law_text : FnScope N_law_text ["table"] (defScope s_law_text) := ⟨rfl, rfl, rfl, by decide +kernel, rfl, by decide +kernel, by decide +kernel⟩
abbrev s_law_numbers : Stmt := top 25
abbrev N_law_numbers : List Str := ["line", "numbers", "word", "sign"]
theorem sc_law_numbers : FnScope N_law_numbers ["line"] (defScope s_law_numbers) := ⟨rfl, rfl, rfl, by decide +kernel, rfl, by decide +kernel, by decide +kernel⟩
abbrev s_law_is_head : Stmt := top 26
abbrev N_law_is_head : List Str := ["numbers"]
theorem sc_law_is_head : FnScope N_law_is_head ["numbers"] (defScope s_law_is_head) := ⟨rfl, rfl, rfl, by decide +kernel, rfl, by decide +kernel, by decide +kernel⟩
abbrev s_law_row : Stmt := top 27
abbrev N_law_row : List Str := ["head", "numbers", "row", "target", "answer", "k"]
theorem sc_law_row : FnScope N_law_row ["head", "numbers"] (defScope s_law_row) := ⟨rfl, rfl, rfl, by decide +kernel, rfl, by decide +kernel, by decide +kernel⟩
abbrev s_law_reading : Stmt := top 28
abbrev N_law_reading : List Str := ["text", "lines", "head", "rows", "at", "numbers", "row"]
theorem sc_law_reading : FnScope N_law_reading ["text"] (defScope s_law_reading) := ⟨rfl, rfl, rfl, by decide +kernel, rfl, by decide +kernel, by decide +kernel⟩
abbrev s_law_sign_changed : Stmt := top 29
abbrev N_law_sign_changed : List Str := ["text", "parts", "sign", "at"]
theorem sc_law_sign_changed : FnScope N_law_sign_changed ["text", "parts"] (defScope s_law_sign_changed) := ⟨rfl, rfl, rfl, by decide +kernel, rfl, by decide +kernel, by decide +kernel⟩
abbrev s_law_word_changed : Stmt := top 30
abbrev N_law_word_changed : List Str := ["text", "parts", "lines", "at", "words", "place", "others"]
theorem sc_law_word_changed : FnScope N_law_word_changed ["text", "parts"] (defScope s_law_word_changed) := ⟨rfl, rfl, rfl, by decide +kernel, rfl, by decide +kernel, by decide +kernel⟩
abbrev s_law_line_changed : Stmt := top 31
abbrev N_law_line_changed : List Str := ["text", "parts", "lines", "at", "heads"]
theorem sc_law_line_changed : FnScope N_law_line_changed ["text", "parts"] (defScope s_law_line_changed) := ⟨rfl, rfl, rfl, by decide +kernel, rfl, by decide +kernel, by decide +kernel⟩
abbrev s_law_changed : Stmt := top 32
abbrev N_law_changed : List Str := ["text", "cell", "parts", "k", "draw"]
theorem sc_law_changed : FnScope N_law_changed ["text", "cell"] (defScope s_law_changed) := ⟨rfl, rfl, rfl, by decide +kernel, rfl, by decide +kernel, by decide +kernel⟩
abbrev s_law_right_text : Stmt := top 33
abbrev N_law_right_text : List Str := ["text", "due", "e"]
theorem sc_law_right_text : FnScope N_law_right_text ["text"] (defScope s_law_right_text) := ⟨rfl, rfl, rfl, by decide +kernel, rfl, by decide +kernel, by decide +kernel⟩
abbrev s_law_large : Stmt := top 34
abbrev N_law_large : List Str := ["parts", "inputs", "states", "rows", "state", "row", "k", "number"]
theorem sc_law_large : FnScope N_law_large ["parts"] (defScope s_law_large) := ⟨rfl, rfl, rfl, by decide +kernel, rfl, by decide +kernel, by decide +kernel⟩
abbrev s_law : Stmt := top 35
abbrev N_law : List Str := ["script", "head", "table", "text", "told", "k"]
theorem sc_law : FnScope N_law ["script"] (defScope s_law) := ⟨rfl, rfl, rfl, by decide +kernel, rfl, by decide +kernel, by decide +kernel⟩
structure Txt (K : PySem.W.Frag) (mg : Str → Option Value) (cl : Nat → Addr) : Prop where
  n_ValueError : mg "ValueError" = none
  n_all : mg "all" = none
  n_bool : mg "bool" = none
  n_enumerate : mg "enumerate" = none
  n_int : mg "int" = none
  n_isinstance : mg "isinstance" = none
  n_len : mg "len" = none
  n_max : mg "max" = none
  n_range : mg "range" = none
  n_str : mg "str" = none
  n_tuple : mg "tuple" = none
  c_MOST_INPUTS : ∃ t, mg "MOST_INPUTS" = some (.int (6) t)
  c_MOST_OUTPUTS : ∃ t, mg "MOST_OUTPUTS" = some (.int (6) t)
  c_MOST_PAIRS : ∃ t, mg "MOST_PAIRS" = some (.int (1024) t)
  c_MOST_STATES : ∃ t, mg "MOST_STATES" = some (.int (32) t)
  c_ROWS : ∃ t, mg "ROWS" = some (.int (2) t)
  ec_0 : ExcC K (cl 0)
  ex_0 : PySem.W.exmOne K (.ref (cl 0)) (.ref (cl 1)) = some true
  kit_0_0 : PySem.W.kitOne K (.ref (cl 0)) (.ref (cl 0)) = some true
  g_0 : mg "InvalidTable" = some (.ref (cl 0))
  kv_0 : PySem.W.kitOne K (.ref (cl 0)) (.type "ValueError") = some true
  g_1 : mg "GatesError" = some (.ref (cl 1))
theorem Txt.ec {K : PySem.W.Frag} {mg : Str → Option Value} {cl : Nat → Addr} (T : Txt K mg cl) : ∀ k, k < 1 → ExcC K (cl k)
  | 0, _ => T.ec_0
  | k + 1, h => absurd h (by omega)
theorem Txt.ex {K : PySem.W.Frag} {mg : Str → Option Value} {cl : Nat → Addr} (T : Txt K mg cl) : ∀ k, k < 1 → PySem.W.exmOne K (.ref (cl k)) (.ref (cl 1)) = some true
  | 0, _ => T.ex_0
  | k + 1, h => absurd h (by omega)
theorem Txt.kit {K : PySem.W.Frag} {mg : Str → Option Value} {cl : Nat → Addr} (T : Txt K mg cl) : ∀ k j, k < 1 → j < 1 → PySem.W.kitOne K (.ref (cl k)) (.ref (cl j)) = some (decide (k = j))
  | 0, 0, _, _ => T.kit_0_0
  | k + 1, _, h, _ => absurd h (by omega)
  | 0, j + 1, _, h => absurd h (by omega)
end G96

namespace G96
open PySem PySem.Spec L2 Mw
theorem ok_state_count {P : Program} {w : World} {K : PySem.W.Frag} {mg : Str → Option Value} {base : Heap} {cl : Nat → Addr} {fa : Addr} {fd : FuncData} (F : Fun K "state_count" "state_count" s_state_count fa fd) (T : Txt K mg cl)  :
    FnOk P w K mg base (L2.CX P w) 1 fa fd ["table"] (spP K cl (rs1 (rP (rsC zI (rsC zI (rs1 (rT (rT (rP (rsC zI (rs1 zI)))))))))) zI (fun a => m_state_count a)) := by
  refine F.okX sc_state_count (fun vs H Q E h => ?_) (fun cdv A outer s H vs Q E hr h => ?_)
  · obtain ⟨G, a, _, hS, _⟩ := h
    exact ln1 _ _ _ _ hS
  · obtain ⟨G, p_table, hg, hS, hm⟩ := h
    obtain ⟨v_p_table, rfl, h_p_table⟩ := hS
    refine ⟨_, (pss_cons (ps_ret (pe_callB (r := Mw.rLen K) call_len (by rfl) T.n_len b_len (pa_cons (pe_ix (r := rIxT K) ix_tup (pv 0) (pe_glob (v := .int (2)) rfl T.c_ROWS.choose_spec ⟨_, rfl⟩) (fun _ _ => rfl)) pa_nil)))
     pss_nil), ?_⟩
    have hs : Hs ⟨H, G, E, cl⟩ G [] H := Hs.start hg
    have hm := Wp.ofSp (G0 := G) hm
    try dsimp only at hm
    unfold m_state_count at hm
    refine (show (_ : TS) _ ([some v_p_table] : L2.St) _ from ?_)
    exact w_ret0 (K := K) (e_len sq_T (e_proj (k := 2) (pjS (pjS pj1)) (e_var (K := K) (i := 0) (R := (rP (rsC zI (rsC zI (rs1 (rT (rT (rP (rsC zI (rs1 zI)))))))))) (x := p_table) rfl h_p_table))) hs hm fun r v G2 H2 hs2 hr2 hq => hq v G2 H2 hs2.fin hr2

theorem ok_is_row {P : Program} {w : World} {K : PySem.W.Frag} {mg : Str → Option Value} {base : Heap} {cl : Nat → Addr} {fa : Addr} {fd : FuncData} (F : Fun K "is_row" "is_row" s_is_row fa fd) (T : Txt K mg cl)  :
    FnOk P w K mg base (L2.CX P w) 1 fa fd ["row", "length", "states", "answers"] (spP K cl (rsC (rT (rP (rsC zI (rs1 zI)))) (rsC zI (rsC zI (rs1 zI)))) rB (fun a => m_is_row (a.1) (a.2.1) (a.2.2.1) (a.2.2.2))) := by
  refine F.okX sc_is_row (fun vs H Q E h => ?_) (fun cdv A outer s H vs Q E hr h => ?_)
  · obtain ⟨G, a, _, hS, _⟩ := h
    exact (lnC (lnC (lnC ln1))) _ _ _ _ hS
  · obtain ⟨G, ⟨p_row, p_length, p_states, p_answers⟩, hg, hS, hm⟩ := h
    obtain ⟨v_p_row, _, rfl, h_p_row, v_p_length, _, rfl, h_p_length, v_p_states, _, rfl, h_p_states, v_p_answers, rfl, h_p_answers⟩ := hS
    cases (show v_p_length = V.int p_length from h_p_length)
    cases (show v_p_states = V.int p_states from h_p_states)
    cases (show v_p_answers = V.int p_answers from h_p_answers)
    refine ⟨_, (pss_cons (ps_if (pt_cmpR op_ne (pe_callB (r := Mw.rLen K) call_len (by rfl) T.n_len b_len (pa_cons (pv 0) pa_nil)) (pv 1) (nomark _)) (pss_cons (ps_ret pe_bl)
     pss_nil) pss_nil)
     (pss_cons (ps_ret (pe_callB (r := rAll K) (cr_all rfl) (by rfl) T.n_all b_all (pa_cons (pe_lc (own := [("target", 4), ("answer", 5)]) rfl sc_is_row.nd (pi_tup (pv 0)) (blkOk_by (own := [("target", 4), ("answer", 5)]) (N := N_is_row) (sc := defScope s_is_row) (by decide +kernel)) (fun _ _ _ _ _ => (show PG _ _ (gTup K 2 _) from pg_tup rfl (pgs_cons (pg_name (i := 4) sc_is_row.nd rfl (by first | exact Or.inl rfl | exact Or.inr rfl)) (pgs_cons (pg_name (i := 5) sc_is_row.nd rfl (by first | exact Or.inl rfl | exact Or.inr rfl)) pgs_nil)))) (fun _ _ _ _ _ => pts_nil) (fun _ _ _ _ _ => (pe_and (pe_chain op_le op_lt pe_int (pv 4) (pv 2)) (pe_one (pe_chain op_le op_lt pe_int (pv 5) (pv 3)))))) pa_nil)))
     pss_nil)), ?_⟩
    have hs : Hs ⟨H, G, E, cl⟩ G [] H := Hs.start hg
    have hm := Wp.ofSp (G0 := G) hm
    try dsimp only at hm
    unfold m_is_row at hm
    refine (show (_ : TS) _ ([some v_p_row, some (.int p_length), some (.int p_states), some (.int p_answers), none, none] : L2.St) _ from ?_)
    refine w_if (t_test (K := K) (e_ne srI (e_len sq_T (e_var (K := K) (i := 0) (R := (rT (rP (rsC zI (rs1 zI))))) (x := p_row) rfl h_p_row)) (e_var (K := K) (i := 1) (R := zI) (x := p_length) rfl rfl))) hs hm (fun G1 H1 e1 hs hm => ?_) (fun G1 H1 e1 hs hm => ?_)
    · have h_p_row := (((rT (rP (rsC zI (rs1 zI))))).mono e1 h_p_row)
      exact w_ret0 (K := K) e_bl hs hm fun r v G2 H2 hs2 hr2 hq => hq v G2 H2 hs2.fin hr2
    · have h_p_row := (((rT (rP (rsC zI (rs1 zI))))).mono e1 h_p_row)
      refine nx_of ?_
      try dsimp only
      refine (show (_ : TS) _ ([some v_p_row, some (.int p_length), some (.int p_states), some (.int p_answers), none, none] : L2.St) _ from ?_)
      exact w_ret0 (K := K) (e_all (e_KL (EvN.evK (n_lc (S := rB) (i_tup (e_var (K := K) (i := 0) (R := (rT (rP (rsC zI (rs1 zI))))) (x := p_row) rfl h_p_row)) (fun _ h => nomatch h) (tg_tup2) (by decide) (fun x2 vs2 G2 e2 hv2 => by
       obtain ⟨v2_p_target, _, rfl, h2_p_target, v2_p_answer, rfl, h2_p_answer⟩ := hv2
       exact ⟨t_yes, (e_and (e_chain e_int (e_var (K := K) (i := 4) (R := zI) (x := x2.1) rfl h2_p_target) (e_var (K := K) (i := 2) (R := zI) (x := p_states) rfl rfl)) (e_chain e_int (e_var (K := K) (i := 5) (R := zI) (x := x2.2) rfl h2_p_answer) (e_var (K := K) (i := 3) (R := zI) (x := p_answers) rfl rfl)))⟩))))) hs hm fun r v G2 H2 hs2 hr2 hq => hq v G2 H2 hs2.fin hr2

theorem ok_write_table {P : Program} {w : World} {K : PySem.W.Frag} {mg : Str → Option Value} {base : Heap} {cl : Nat → Addr} {fa : Addr} {fd : FuncData} (F : Fun K "write_table" "write_table" s_write_table fa fd) (T : Txt K mg cl) (C_state_count : Cal P w K mg base "state_count" 1 ["table"] (spP K cl (rs1 (rP (rsC zI (rsC zI (rs1 (rT (rT (rP (rsC zI (rs1 zI)))))))))) zI (fun a => m_state_count a))) :
    FnOk P w K mg base (L2.CX P w) 2 fa fd ["table"] (spP K cl (rs1 (rP (rsC zI (rsC zI (rs1 (rT (rT (rP (rsC zI (rs1 zI)))))))))) rS (fun a => m_write_table a)) := by
  refine F.okX sc_write_table (fun vs H Q E h => ?_) (fun cdv A outer s H vs Q E hr h => ?_)
  · obtain ⟨G, a, _, hS, _⟩ := h
    exact ln1 _ _ _ _ hS
  · obtain ⟨G, p_table, hg, hS, hm⟩ := h
    obtain ⟨v_p_table, rfl, h_p_table⟩ := hS
    have tk : Takes (cxOf (L2.CX P w) P w K mg base N_write_table "write_table" (defScope s_write_table) fa cdv A outer s H E) (fun cls d _ H => E cls d H) := takes_of rfl rfl rfl rfl
    refine ⟨_, (pss_cons (ps_set (i := 1) sc_write_table.nd rfl (by first | exact Or.inl rfl | exact Or.inr rfl) (show PE _ _ (tJoin _) from pe_joined (PJ.cons (pe_fmt (pe_ix (r := rIxT K) ix_tup (pv 0) pe_int (fun _ _ => rfl))) (PJ.cons pe_str (PJ.cons (pe_fmt (pe_ix (r := rIxT K) ix_tup (pv 0) pe_int (fun _ _ => rfl))) (PJ.cons pe_str (PJ.cons (pe_fmt (pe_call (E := E) C_state_count.ok (hr.mono (by decide)) rfl C_state_count.mgx C_state_count.kp C_state_count.bd .nil (passes_call tk (fun _ _ _ _ h => h)) (pa_cons (pv 0) pa_nil))) (PJ.cons pe_str PJ.nil))))))))
     (pss_cons (ps_for (passes_of rfl) rfl (pi_tup (pe_ix (r := rIxT K) ix_tup (pv 0) (pe_glob (v := .int (2)) rfl T.c_ROWS.choose_spec ⟨_, rfl⟩) (fun _ _ => rfl))) (pg_name (i := 2) sc_write_table.nd rfl (by first | exact Or.inl rfl | exact Or.inr rfl)) (pss_cons (ps_aug (i := 1) sc_write_table.nd rfl (by first | exact Or.inl rfl | exact Or.inr rfl) (pe_op (r := rAddS) op_add_str (pe_join pe_str (pe_lc (own := [("target", 3), ("answer", 4)]) rfl sc_write_table.nd (pi_tup (pv 2)) (blkOk_by (own := [("target", 3), ("answer", 4)]) (N := N_write_table) (sc := defScope s_write_table) (by decide +kernel)) (fun _ _ _ _ _ => (show PG _ _ (gTup K 2 _) from pg_tup rfl (pgs_cons (pg_name (i := 3) sc_write_table.nd rfl (by first | exact Or.inl rfl | exact Or.inr rfl)) (pgs_cons (pg_name (i := 4) sc_write_table.nd rfl (by first | exact Or.inl rfl | exact Or.inr rfl)) pgs_nil)))) (fun _ _ _ _ _ => pts_nil) (fun _ _ _ _ _ => (show PE _ _ (tJoin _) from pe_joined (PJ.cons (pe_fmt (pv 3)) (PJ.cons pe_str (PJ.cons (pe_fmt (pv 4)) PJ.nil))))))) pe_str) ip_addS)
     pss_nil))
     (pss_cons (ps_ret (pv 1))
     pss_nil))), ?_⟩
    have hs : Hs ⟨H, G, E, cl⟩ G [] H := Hs.start hg
    have hm := Wp.ofSp (G0 := G) hm
    try dsimp only at hm
    unfold m_write_table at hm
    refine (show (_ : TS) _ ([some v_p_table, none, none, none, none] : L2.St) _ from ?_)
    refine w_asg (K := K) (tg_name (i := 1) (R := rS)) (e_joined (j_cons (e_fmtI (e_proj (k := 0) pj0 (e_var (K := K) (i := 0) (R := (rP (rsC zI (rsC zI (rs1 (rT (rT (rP (rsC zI (rs1 zI)))))))))) (x := p_table) rfl h_p_table))) (j_cons e_str (j_cons (e_fmtI (e_proj (k := 1) (pjS pj0) (e_var (K := K) (i := 0) (R := (rP (rsC zI (rsC zI (rs1 (rT (rT (rP (rsC zI (rs1 zI)))))))))) (x := p_table) rfl h_p_table))) (j_cons e_str (j_cons (e_fmtI (e_call (fm := ⟨H, G, E, cl⟩) (a_one (e_var (K := K) (i := 0) (R := (rP (rsC zI (rsC zI (rs1 (rT (rT (rP (rsC zI (rs1 zI)))))))))) (x := p_table) rfl h_p_table)))) (j_cons e_str j_nil))))))) hs hm (fun p_text vv1 G1 H1 e1 hs hv1 hm => ?_)
    obtain ⟨v_p_text, rfl, h_p_text⟩ := hv1
    cases (show v_p_text = V.str p_text from h_p_text)
    have h_p_table := (((rP (rsC zI (rsC zI (rs1 (rT (rT (rP (rsC zI (rs1 zI)))))))))).mono e1 h_p_table)
    refine (show (_ : TS) _ ([some v_p_table, some (.str p_text), none, none, none] : L2.St) _ from ?_)
    refine w_forM (K := K) (fun (p_text : Str) (σ : L2.St) (G : Hp) (O : Own) => ∃ (d_2 : Option V), σ = [some v_p_table, some (.str p_text), d_2, none, none] ∧ O = []) (i_tup (e_proj (k := 2) (pjS (pjS pj1)) (e_var (K := K) (i := 0) (R := (rP (rsC zI (rsC zI (rs1 (rT (rT (rP (rsC zI (rs1 zI)))))))))) (x := p_table) rfl h_p_table))) (fun _ _ _ _ _ _ h => nomatch h) (tg_name (i := 2) (R := (rT (rP (rsC zI (rs1 zI)))))) hs hm ⟨none, rfl, rfl⟩ (fun p_row p_text σ_ G1_2 G2 O_ H2 vv2 D2 Qb2 e2 w_ e12 hs hv2 E2 hm => ?_) (fun p_text σ_ G1_2 G2 O_ H2 e2 w_ e12 hs hm => ?_)
    · obtain ⟨d_2, rfl, rfl⟩ := w_
      have h_p_table := (((rP (rsC zI (rsC zI (rs1 (rT (rT (rP (rsC zI (rs1 zI)))))))))).mono e2 h_p_table)
      obtain ⟨v_p_row, rfl, h_p_row⟩ := hv2
      have b2 := Same.refl G2
      refine (show (_ : TS) _ ([some v_p_table, some (.str p_text), some v_p_row, none, none] : L2.St) _ from ?_)
      unfold m_write_table_b5 at hm
      try dsimp only at hm
      refine w_augS (K := K) (i := 1) (x := p_text) rfl (e_addS (e_jn e_str (e_KL (EvN.evK (n_lc (S := rS) (i_tup (e_var (K := K) (i := 2) (R := (rT (rP (rsC zI (rs1 zI))))) (x := p_row) rfl h_p_row)) (fun _ h => nomatch h) (tg_tup2) (by decide) (fun x3 vs3 G3 e3 hv3 => by
       obtain ⟨v3_p_target, _, rfl, h3_p_target, v3_p_answer, rfl, h3_p_answer⟩ := hv3
       exact ⟨t_yes, (e_joined (j_cons (e_fmtI (e_var (K := K) (i := 3) (R := zI) (x := x3.1) rfl h3_p_target)) (j_cons e_str (j_cons (e_fmtI (e_var (K := K) (i := 4) (R := zI) (x := x3.2) rfl h3_p_answer)) j_nil))))⟩))))) e_str) hs hm (fun y4 G4 H4 e4 hs hm => ?_)
      have h_p_table := (((rP (rsC zI (rsC zI (rs1 (rT (rT (rP (rsC zI (rs1 zI)))))))))).mono e4 h_p_table)
      have h_p_row := (((rT (rP (rsC zI (rs1 zI))))).mono e4 h_p_row)
      have b2 := Same.trans b2 e4
      refine (show (_ : TS) _ ([some v_p_table, some (.str (p_text ++ y4)), some v_p_row, none, none] : L2.St) _ from ?_)
      generalize p_text ++ y4 = p_text at hm ⊢
      exact E2.nx p_text _ _ _ _ _ b2 ⟨some v_p_row, rfl, rfl⟩ (Same.refl _) hs hm.out
    · obtain ⟨d_2, rfl, rfl⟩ := w_
      have h_p_table := (((rP (rsC zI (rsC zI (rs1 (rT (rT (rP (rsC zI (rs1 zI)))))))))).mono e2 h_p_table)
      refine (show (_ : TS) _ ([some v_p_table, some (.str p_text), d_2, none, none] : L2.St) _ from ?_)
      try dsimp only at hm
      exact w_ret0 (K := K) (e_var (K := K) (i := 1) (R := rS) (x := p_text) rfl rfl) hs hm fun r v G2 H2 hs2 hr2 hq => hq v G2 H2 hs2.fin hr2

theorem ok_is_number {P : Program} {w : World} {K : PySem.W.Frag} {mg : Str → Option Value} {base : Heap} {cl : Nat → Addr} {fa : Addr} {fd : FuncData} (F : Fun K "is_number" "is_number" s_is_number fa fd) (T : Txt K mg cl)  :
    FnOk P w K mg base (L2.CX P w) 1 fa fd ["word"] (spP K cl (rs1 rS) rB (fun a => m_is_number a)) := by
  refine F.okX sc_is_number (fun vs H Q E h => ?_) (fun cdv A outer s H vs Q E hr h => ?_)
  · obtain ⟨G, a, _, hS, _⟩ := h
    exact ln1 _ _ _ _ hS
  · obtain ⟨G, p_word, hg, hS, hm⟩ := h
    obtain ⟨v_p_word, rfl, h_p_word⟩ := hS
    cases (show v_p_word = V.str p_word from h_p_word)
    refine ⟨_, (pss_cons (ps_ret (pe_and (pe_m0 PySem.F.slot_str_isdigit PySem.F.type_str_isdigit mt_isdigit (pv 0)) (pe_one (pe_cmpR op_eq (pe_callTy (r := rStrI) call_str_int (by rfl) T.n_str b_str (pa_cons (pe_callTy (r := rIntS) call_int_str (by rfl) T.n_int b_int (pa_cons (pv 0) pa_nil)) pa_nil)) (pv 0) (nomark _)))))
     pss_nil), ?_⟩
    have hs : Hs ⟨H, G, E, cl⟩ G [] H := Hs.start hg
    have hm := Wp.ofSp (G0 := G) hm
    try dsimp only at hm
    unfold m_is_number at hm
    refine (show (_ : TS) _ ([some (.str p_word)] : L2.St) _ from ?_)
    exact w_ret0 (K := K) (e_and (e_isd (e_var (K := K) (i := 0) (R := rS) (x := p_word) rfl rfl)) (e_eq srS (e_strI (e_intS (e_var (K := K) (i := 0) (R := rS) (x := p_word) rfl rfl))) (e_var (K := K) (i := 0) (R := rS) (x := p_word) rfl rfl))) hs hm fun r v G2 H2 hs2 hr2 hq => hq v G2 H2 hs2.fin hr2

theorem ok_read_numbers {P : Program} {w : World} {K : PySem.W.Frag} {mg : Str → Option Value} {base : Heap} {cl : Nat → Addr} {fa : Addr} {fd : FuncData} (F : Fun K "read_numbers" "read_numbers" s_read_numbers fa fd) (T : Txt K mg cl) (C_is_number : Cal P w K mg base "is_number" 1 ["word"] (spP K cl (rs1 rS) rB (fun a => m_is_number a))) :
    FnOk P w K mg base (L2.CX P w) 2 fa fd ["line"] (spP K cl (rs1 rS) (rO (rK zI)) (fun a => m_read_numbers a)) := by
  refine F.okX sc_read_numbers (fun vs H Q E h => ?_) (fun cdv A outer s H vs Q E hr h => ?_)
  · obtain ⟨G, a, _, hS, _⟩ := h
    exact ln1 _ _ _ _ hS
  · obtain ⟨G, p_line, hg, hS, hm⟩ := h
    obtain ⟨v_p_line, rfl, h_p_line⟩ := hS
    cases (show v_p_line = V.str p_line from h_p_line)
    refine ⟨_, (pss_cons (ps_set (i := 1) sc_read_numbers.nd rfl (by first | exact Or.inl rfl | exact Or.inr rfl) (pe_split (pv 0) pe_str))
     (pss_cons (ps_if (pt_not (pt_val (pe_callB (r := rAll K) (cr_all rfl) (by rfl) T.n_all b_all (pa_cons (pe_lc (own := [("word", 2)]) rfl sc_read_numbers.nd (pi_list (pv 1)) (blkOk_by (own := [("word", 2)]) (N := N_read_numbers) (sc := defScope s_read_numbers) (by decide +kernel)) (fun _ _ _ _ _ => (pg_name (i := 2) sc_read_numbers.nd rfl (by first | exact Or.inl rfl | exact Or.inr rfl))) (fun _ _ _ _ _ => pts_nil) (fun _ _ _ _ _ => (pe_call (E := E0) C_is_number.ok (hr.mono (by decide)) rfl C_is_number.mgx C_is_number.kp C_is_number.bd .nil passL (pa_cons (pv 2) pa_nil)))) pa_nil)))) (pss_cons (ps_ret pe_non)
     pss_nil) pss_nil)
     (pss_cons (ps_ret (pe_lc (own := [("word", 2)]) rfl sc_read_numbers.nd (pi_list (pv 1)) (blkOk_by (own := [("word", 2)]) (N := N_read_numbers) (sc := defScope s_read_numbers) (by decide +kernel)) (fun _ _ _ _ _ => (pg_name (i := 2) sc_read_numbers.nd rfl (by first | exact Or.inl rfl | exact Or.inr rfl))) (fun _ _ _ _ _ => pts_nil) (fun _ _ _ _ _ => (pe_callTy (r := rIntS) call_int_str (by rfl) T.n_int b_int (pa_cons (pv 2) pa_nil)))))
     pss_nil))), ?_⟩
    have hs : Hs ⟨H, G, E, cl⟩ G [] H := Hs.start hg
    have hm := Wp.ofSp (G0 := G) hm
    try dsimp only at hm
    unfold m_read_numbers at hm
    refine (show (_ : TS) _ ([some (.str p_line), none, none] : L2.St) _ from ?_)
    refine w_asg (K := K) (tg_name (i := 1) (R := (rK rS))) (EvN.evK (n_spl (e_var (K := K) (i := 0) (R := rS) (x := p_line) rfl rfl) e_str)) hs hm (fun p_words vv1 G1 H1 e1 hs hv1 hm => ?_)
    obtain ⟨v_p_words, rfl, h_p_words⟩ := hv1
    refine (show (_ : TS) _ ([some (.str p_line), some v_p_words, none] : L2.St) _ from ?_)
    refine w_if (t_not (t_val (K := K) (e_all (e_KL (EvN.evK (n_lc (S := rB) (i_list (e_KL (e_var (K := K) (i := 1) (R := (rK rS)) (x := p_words) rfl h_p_words))) (fun _ h => nomatch h) (tg_name (i := 2) (R := rS)) (by decide) (fun x2 vs2 G2 e2 hv2 => by
     obtain ⟨v2_p_word, rfl, h2_p_word⟩ := hv2
     exact ⟨t_yes, (e_call (fm := ⟨H, G, E0, cl⟩) (a_one (e_var (K := K) (i := 2) (R := rS) (x := x2) rfl h2_p_word)))⟩))))))) hs hm (fun G3 H3 e3 hs hm => ?_) (fun G3 H3 e3 hs hm => ?_)
    · have h_p_words := (((rK rS)).mono e3 h_p_words)
      exact w_ret0 (K := K) (e_nonO (R := (rK zI))) hs hm fun r v G2 H2 hs2 hr2 hq => hq v G2 H2 hs2.fin hr2
    · have h_p_words := (((rK rS)).mono e3 h_p_words)
      refine nx_of ?_
      try dsimp only
      refine (show (_ : TS) _ ([some (.str p_line), some v_p_words, none] : L2.St) _ from ?_)
      exact w_ret0 (K := K) (e_some nn_K (EvN.evK (n_lc (S := zI) (i_list (e_KL (e_var (K := K) (i := 1) (R := (rK rS)) (x := p_words) rfl h_p_words))) (fun _ h => nomatch h) (tg_name (i := 2) (R := rS)) (by decide) (fun x4 vs4 G4 e4 hv4 => by
       obtain ⟨v4_p_word, rfl, h4_p_word⟩ := hv4
       exact ⟨t_yes, (e_intS (e_var (K := K) (i := 2) (R := rS) (x := x4) rfl h4_p_word))⟩)))) hs hm fun r v G2 H2 hs2 hr2 hq => hq v G2 H2 hs2.fin hr2

theorem ok_is_head {P : Program} {w : World} {K : PySem.W.Frag} {mg : Str → Option Value} {base : Heap} {cl : Nat → Addr} {fa : Addr} {fd : FuncData} (F : Fun K "is_head" "is_head" s_is_head fa fd) (T : Txt K mg cl)  :
    FnOk P w K mg base (L2.CX P w) 1 fa fd ["numbers"] (spP K cl (rs1 (rO (rK zI))) rB (fun a => m_is_head a)) := by
  refine F.okX sc_is_head (fun vs H Q E h => ?_) (fun cdv A outer s H vs Q E hr h => ?_)
  · obtain ⟨G, a, _, hS, _⟩ := h
    exact ln1 _ _ _ _ hS
  · obtain ⟨G, p_numbers, hg, hS, hm⟩ := h
    obtain ⟨v_p_numbers, rfl, h_p_numbers⟩ := hS
    refine ⟨_, (pss_cons (ps_if (PW.pt (pw_or (pt_cmpR op_isN (pv 0) pe_non (nomark _)) (pw_or1 (pt_cmpR op_ne (pe_callB (r := Mw.rLen K) call_len (by rfl) T.n_len b_len (pa_cons (pv 0) pa_nil)) pe_int (nomark _))))) (pss_cons (ps_ret pe_bl)
     pss_nil) pss_nil)
     (pss_cons (ps_asg (pv 0) (show PG _ _ (gUnl K 3 _) from pg_unl rfl (pgs_cons (pg_name (i := 1) sc_is_head.nd rfl (by first | exact Or.inl rfl | exact Or.inr rfl)) (pgs_cons (pg_name (i := 2) sc_is_head.nd rfl (by first | exact Or.inl rfl | exact Or.inr rfl)) (pgs_cons (pg_name (i := 3) sc_is_head.nd rfl (by first | exact Or.inl rfl | exact Or.inr rfl)) pgs_nil)))))
     (pss_cons (ps_if (PW.pt (pw_or (pt_cmpR op_gt (pv 1) (pe_glob (v := .int (6)) rfl T.c_MOST_INPUTS.choose_spec ⟨_, rfl⟩) (nomark _)) (pw_or (pt_not (pt_chain op_le op_le pe_int (pv 2) (pe_glob (v := .int (6)) rfl T.c_MOST_OUTPUTS.choose_spec ⟨_, rfl⟩))) (pw_or1 (pt_not (pt_chain op_le op_le pe_int (pv 3) (pe_glob (v := .int (32)) rfl T.c_MOST_STATES.choose_spec ⟨_, rfl⟩))))))) (pss_cons (ps_ret pe_bl)
     pss_nil) pss_nil)
     (pss_cons (ps_ret (pe_cmpR op_le (pe_op op_shl (pv 3) (pv 1)) (pe_glob (v := .int (1024)) rfl T.c_MOST_PAIRS.choose_spec ⟨_, rfl⟩) (nomark _)))
     pss_nil)))), ?_⟩
    have hs : Hs ⟨H, G, E, cl⟩ G [] H := Hs.start hg
    have hm := Wp.ofSp (G0 := G) hm
    try dsimp only at hm
    unfold m_is_head at hm
    refine (show (_ : TS) _ ([some v_p_numbers, none, none, none] : L2.St) _ from ?_)
    refine w_if (t_or (t_test (K := K) (e_isN (e_var (K := K) (i := 0) (R := (rO (rK zI))) (x := p_numbers) rfl h_p_numbers))) (t_test (K := K) (e_ne srI (e_len sq_K (e_get (e_var (K := K) (i := 0) (R := (rO (rK zI))) (x := p_numbers) rfl h_p_numbers))) e_int))) hs hm (fun G1 H1 e1 hs hm => ?_) (fun G1 H1 e1 hs hm => ?_)
    · have h_p_numbers := (((rO (rK zI))).mono e1 h_p_numbers)
      exact w_ret0 (K := K) e_bl hs hm fun r v G2 H2 hs2 hr2 hq => hq v G2 H2 hs2.fin hr2
    · have h_p_numbers := (((rO (rK zI))).mono e1 h_p_numbers)
      refine nx_of ?_
      try dsimp only
      refine (show (_ : TS) _ ([some v_p_numbers, none, none, none] : L2.St) _ from ?_)
      refine w_asg (K := K) tg_unl3 (e_L3 (e_KL (e_get (e_var (K := K) (i := 0) (R := (rO (rK zI))) (x := p_numbers) rfl h_p_numbers)))) hs hm (fun p2 vv2 G2 H2 e2 hs hv2 hm => ?_)
      obtain ⟨p_inputs, p_outputs, p_states⟩ := p2
      obtain ⟨v_p_inputs, _, rfl, h_p_inputs, v_p_outputs, _, rfl, h_p_outputs, v_p_states, rfl, h_p_states⟩ := hv2
      cases (show v_p_inputs = V.int p_inputs from h_p_inputs)
      cases (show v_p_outputs = V.int p_outputs from h_p_outputs)
      cases (show v_p_states = V.int p_states from h_p_states)
      have h_p_numbers := (((rO (rK zI))).mono e2 h_p_numbers)
      refine (show (_ : TS) _ ([some v_p_numbers, some (.int p_inputs), some (.int p_outputs), some (.int p_states)] : L2.St) _ from ?_)
      refine w_if (t_or (t_test (K := K) (e_cmp (p := fun i j => decide (j < i)) (e_var (K := K) (i := 1) (R := zI) (x := p_inputs) rfl rfl) e_int)) (t_or (t_not (t_test (K := K) (e_chain e_int (e_var (K := K) (i := 2) (R := zI) (x := p_outputs) rfl rfl) e_int))) (t_not (t_test (K := K) (e_chain e_int (e_var (K := K) (i := 3) (R := zI) (x := p_states) rfl rfl) e_int))))) hs hm (fun G3 H3 e3 hs hm => ?_) (fun G3 H3 e3 hs hm => ?_)
      · have h_p_numbers := (((rO (rK zI))).mono e3 h_p_numbers)
        exact w_ret0 (K := K) e_bl hs hm fun r v G2 H2 hs2 hr2 hq => hq v G2 H2 hs2.fin hr2
      · have h_p_numbers := (((rO (rK zI))).mono e3 h_p_numbers)
        refine nx_of ?_
        try dsimp only
        refine (show (_ : TS) _ ([some v_p_numbers, some (.int p_inputs), some (.int p_outputs), some (.int p_states)] : L2.St) _ from ?_)
        exact w_ret0 (K := K) (e_cmp (p := fun i j => decide (i ≤ j)) (e_shl (e_var (K := K) (i := 3) (R := zI) (x := p_states) rfl rfl) (e_var (K := K) (i := 1) (R := zI) (x := p_inputs) rfl rfl)) e_int) hs hm fun r v G2 H2 hs2 hr2 hq => hq v G2 H2 hs2.fin hr2

theorem ok_row_of {P : Program} {w : World} {K : PySem.W.Frag} {mg : Str → Option Value} {base : Heap} {cl : Nat → Addr} {fa : Addr} {fd : FuncData} (F : Fun K "row_of" "row_of" s_row_of fa fd) (T : Txt K mg cl) (C_is_row : Cal P w K mg base "is_row" 1 ["row", "length", "states", "answers"] (spP K cl (rsC (rT (rP (rsC zI (rs1 zI)))) (rsC zI (rsC zI (rs1 zI)))) rB (fun a => m_is_row (a.1) (a.2.1) (a.2.2.1) (a.2.2.2)))) :
    FnOk P w K mg base (L2.CX P w) 2 fa fd ["head", "numbers"] (spP K cl (rsC (rK zI) (rs1 (rO (rK zI)))) (rO (rT (rP (rsC zI (rs1 zI))))) (fun a => m_row_of (a.1) (a.2))) := by
  refine F.okX sc_row_of (fun vs H Q E h => ?_) (fun cdv A outer s H vs Q E hr h => ?_)
  · obtain ⟨G, a, _, hS, _⟩ := h
    exact (lnC ln1) _ _ _ _ hS
  · obtain ⟨G, ⟨p_head, p_numbers⟩, hg, hS, hm⟩ := h
    obtain ⟨v_p_head, _, rfl, h_p_head, v_p_numbers, rfl, h_p_numbers⟩ := hS
    have tk : Takes (cxOf (L2.CX P w) P w K mg base N_row_of "row_of" (defScope s_row_of) fa cdv A outer s H E) (fun cls d _ H => E cls d H) := takes_of rfl rfl rfl rfl
    refine ⟨_, (pss_cons (ps_if (PW.pt (pw_or (pt_cmpR op_isN (pv 1) pe_non (nomark _)) (pw_or1 (pt_cmpR op_ne (pe_callB (r := Mw.rLen K) call_len (by rfl) T.n_len b_len (pa_cons (pv 1) pa_nil)) (pe_op op_shl pe_int (pe_ix (r := rIxL K) ix_list (pv 0) pe_int (fun _ _ => rfl))) (nomark _))))) (pss_cons (ps_ret pe_non)
     pss_nil) pss_nil)
     (pss_cons (ps_set (i := 2) sc_row_of.nd rfl (by first | exact Or.inl rfl | exact Or.inr rfl) (pe_callTy (r := rTu K) call_tuple_of (by rfl) T.n_tuple b_tuple (pa_cons (pe_lc (own := [("k", 3)]) rfl sc_row_of.nd (pi_range3 rfl T.n_range (pa_cons pe_int (pa_cons (pe_callB (r := Mw.rLen K) call_len (by rfl) T.n_len b_len (pa_cons (pv 1) pa_nil)) (pa_cons pe_int pa_nil)))) (blkOk_by (own := [("k", 3)]) (N := N_row_of) (sc := defScope s_row_of) (by decide +kernel)) (fun _ _ _ _ _ => (pg_name (i := 3) sc_row_of.nd rfl (by first | exact Or.inl rfl | exact Or.inr rfl))) (fun _ _ _ _ _ => pts_nil) (fun _ _ _ _ _ => (pe_tup (pa_cons (pe_ix (r := rIxL K) ix_list (pv 1) (pv 3) (fun _ _ => rfl)) (pa_cons (pe_ix (r := rIxL K) ix_list (pv 1) (pe_op op_add (pv 3) pe_int) (fun _ _ => rfl)) pa_nil))))) pa_nil)))
     (pss_cons (ps_if (pt_not (pt_val (pe_call (E := E) C_is_row.ok (hr.mono (by decide)) rfl C_is_row.mgx C_is_row.kp C_is_row.bd .nil (passes_call tk (fun _ _ _ _ h => h)) (pa_cons (pv 2) (pa_cons (pe_op op_shl pe_int (pe_ix (r := rIxL K) ix_list (pv 0) pe_int (fun _ _ => rfl))) (pa_cons (pe_ix (r := rIxL K) ix_list (pv 0) pe_int (fun _ _ => rfl)) (pa_cons (pe_op op_shl pe_int (pe_ix (r := rIxL K) ix_list (pv 0) pe_int (fun _ _ => rfl))) pa_nil))))))) (pss_cons (ps_ret pe_non)
     pss_nil) pss_nil)
     (pss_cons (ps_ret (pv 2))
     pss_nil)))), ?_⟩
    have hs : Hs ⟨H, G, E, cl⟩ G [] H := Hs.start hg
    have hm := Wp.ofSp (G0 := G) hm
    try dsimp only at hm
    unfold m_row_of at hm
    refine (show (_ : TS) _ ([some v_p_head, some v_p_numbers, none, none] : L2.St) _ from ?_)
    refine w_if (t_or (t_test (K := K) (e_isN (e_var (K := K) (i := 1) (R := (rO (rK zI))) (x := p_numbers) rfl h_p_numbers))) (t_test (K := K) (e_ne srI (e_len sq_K (e_get (e_var (K := K) (i := 1) (R := (rO (rK zI))) (x := p_numbers) rfl h_p_numbers))) (e_shl e_int (e_ixL (e_KL (e_var (K := K) (i := 0) (R := (rK zI)) (x := p_head) rfl h_p_head)) e_int))))) hs hm (fun G1 H1 e1 hs hm => ?_) (fun G1 H1 e1 hs hm => ?_)
    · have h_p_head := (((rK zI)).mono e1 h_p_head)
      have h_p_numbers := (((rO (rK zI))).mono e1 h_p_numbers)
      exact w_ret0 (K := K) (e_nonO (R := (rT (rP (rsC zI (rs1 zI)))))) hs hm fun r v G2 H2 hs2 hr2 hq => hq v G2 H2 hs2.fin hr2
    · have h_p_head := (((rK zI)).mono e1 h_p_head)
      have h_p_numbers := (((rO (rK zI))).mono e1 h_p_numbers)
      refine nx_of ?_
      try dsimp only
      refine (show (_ : TS) _ ([some v_p_head, some v_p_numbers, none, none] : L2.St) _ from ?_)
      refine w_asg (K := K) (tg_name (i := 2) (R := (rT (rP (rsC zI (rs1 zI)))))) (e_tupleL (e_KL (EvN.evK (n_lc (S := (rP (rsC zI (rs1 zI)))) (i_rng3 e_int (e_len sq_K (e_get (e_var (K := K) (i := 1) (R := (rO (rK zI))) (x := p_numbers) rfl h_p_numbers)))) (fun _ h => nomatch h) (tg_name (i := 3) (R := zI)) (by decide) (fun x2 vs2 G2 e2 hv2 => by
       obtain ⟨v2_p_k, rfl, h2_p_k⟩ := hv2
       exact ⟨t_yes, (e_tup (lnC ln1) (a_cons (e_ixL (e_KL (e_get (e_var (K := K) (i := 1) (R := (rO (rK zI))) (x := p_numbers) rfl (((rO (rK zI))).mono e2 h_p_numbers)))) (e_var (K := K) (i := 3) (R := zI) (x := x2) rfl h2_p_k)) (a_one (e_ixL (e_KL (e_get (e_var (K := K) (i := 1) (R := (rO (rK zI))) (x := p_numbers) rfl (((rO (rK zI))).mono e2 h_p_numbers)))) (e_add (e_var (K := K) (i := 3) (R := zI) (x := x2) rfl h2_p_k) e_int)))) (by decide))⟩))))) hs hm (fun p_row vv3 G3 H3 e3 hs hv3 hm => ?_)
      obtain ⟨v_p_row, rfl, h_p_row⟩ := hv3
      have h_p_head := (((rK zI)).mono e3 h_p_head)
      have h_p_numbers := (((rO (rK zI))).mono e3 h_p_numbers)
      refine (show (_ : TS) _ ([some v_p_head, some v_p_numbers, some v_p_row, none] : L2.St) _ from ?_)
      refine w_if (t_not (t_val (K := K) (e_call (fm := ⟨H, G, E, cl⟩) (a_cons (e_var (K := K) (i := 2) (R := (rT (rP (rsC zI (rs1 zI))))) (x := p_row) rfl h_p_row) (a_cons (e_shl e_int (e_ixL (e_KL (e_var (K := K) (i := 0) (R := (rK zI)) (x := p_head) rfl h_p_head)) e_int)) (a_cons (e_ixL (e_KL (e_var (K := K) (i := 0) (R := (rK zI)) (x := p_head) rfl h_p_head)) e_int) (a_one (e_shl e_int (e_ixL (e_KL (e_var (K := K) (i := 0) (R := (rK zI)) (x := p_head) rfl h_p_head)) e_int))))))))) hs hm (fun G4 H4 e4 hs hm => ?_) (fun G4 H4 e4 hs hm => ?_)
      · have h_p_head := (((rK zI)).mono e4 h_p_head)
        have h_p_numbers := (((rO (rK zI))).mono e4 h_p_numbers)
        have h_p_row := (((rT (rP (rsC zI (rs1 zI))))).mono e4 h_p_row)
        exact w_ret0 (K := K) (e_nonO (R := (rT (rP (rsC zI (rs1 zI)))))) hs hm fun r v G2 H2 hs2 hr2 hq => hq v G2 H2 hs2.fin hr2
      · have h_p_head := (((rK zI)).mono e4 h_p_head)
        have h_p_numbers := (((rO (rK zI))).mono e4 h_p_numbers)
        have h_p_row := (((rT (rP (rsC zI (rs1 zI))))).mono e4 h_p_row)
        refine nx_of ?_
        try dsimp only
        refine (show (_ : TS) _ ([some v_p_head, some v_p_numbers, some v_p_row, none] : L2.St) _ from ?_)
        exact w_ret0 (K := K) (e_some nn_T (e_var (K := K) (i := 2) (R := (rT (rP (rsC zI (rs1 zI))))) (x := p_row) rfl h_p_row)) hs hm fun r v G2 H2 hs2 hr2 hq => hq v G2 H2 hs2.fin hr2

theorem ok_read_table {P : Program} {w : World} {K : PySem.W.Frag} {mg : Str → Option Value} {base : Heap} {cl : Nat → Addr} {fa : Addr} {fd : FuncData} (F : Fun K "read_table" "read_table" s_read_table fa fd) (T : Txt K mg cl) (C_read_numbers : Cal P w K mg base "read_numbers" 2 ["line"] (spP K cl (rs1 rS) (rO (rK zI)) (fun a => m_read_numbers a))) (C_is_head : Cal P w K mg base "is_head" 1 ["numbers"] (spP K cl (rs1 (rO (rK zI))) rB (fun a => m_is_head a))) (C_row_of : Cal P w K mg base "row_of" 2 ["head", "numbers"] (spP K cl (rsC (rK zI) (rs1 (rO (rK zI)))) (rO (rT (rP (rsC zI (rs1 zI))))) (fun a => m_row_of (a.1) (a.2)))) (XI0 : XIn P w K mg base (cl 0) 1 "line" "line") :
    FnOk P w K mg base (L2.CX P w) 3 fa fd ["text"] (spP K cl (rs1 rS) (rP (rsC zI (rsC zI (rs1 (rT (rT (rP (rsC zI (rs1 zI))))))))) (fun a => m_read_table a)) := by
  refine F.okX sc_read_table (fun vs H Q E h => ?_) (fun cdv A outer s H vs Q E hr h => ?_)
  · obtain ⟨G, a, _, hS, _⟩ := h
    exact ln1 _ _ _ _ hS
  · obtain ⟨G, p_text, hg, hS, hm⟩ := h
    obtain ⟨v_p_text, rfl, h_p_text⟩ := hS
    cases (show v_p_text = V.str p_text from h_p_text)
    have tk : Takes (cxOf (L2.CX P w) P w K mg base N_read_table "read_table" (defScope s_read_table) fa cdv A outer s H E) (fun cls d _ H => E cls d H) := takes_of rfl rfl rfl rfl
    refine ⟨_, (pss_cons (ps_set (i := 1) sc_read_table.nd rfl (by first | exact Or.inl rfl | exact Or.inr rfl) (pe_split (pv 0) pe_str))
     (pss_cons (ps_set (i := 2) sc_read_table.nd rfl (by first | exact Or.inl rfl | exact Or.inr rfl) (pe_lst (pa_cons pe_int (pa_cons pe_int (pa_cons pe_int pa_nil)))))
     (pss_cons (ps_set (i := 3) sc_read_table.nd rfl (by first | exact Or.inl rfl | exact Or.inr rfl) (pe_lst pa_nil))
     (pss_cons (ps_for (passes_of rfl) rfl (pi_enum (by rfl) T.n_enumerate (pa_cons (pe_slice (r := rSlL K) sl_list (pv 1) po_none (po_some (pe_un un_neg pe_int))) pa_nil)) (show PG _ _ (gTup K 2 _) from pg_tup rfl (pgs_cons (pg_name (i := 4) sc_read_table.nd rfl (by first | exact Or.inl rfl | exact Or.inr rfl)) (pgs_cons (pg_name (i := 5) sc_read_table.nd rfl (by first | exact Or.inl rfl | exact Or.inr rfl)) pgs_nil))) (pss_cons (ps_set (i := 6) sc_read_table.nd rfl (by first | exact Or.inl rfl | exact Or.inr rfl) (pe_call (E := E) C_read_numbers.ok (hr.mono (by decide)) rfl C_read_numbers.mgx C_read_numbers.kp C_read_numbers.bd .nil (passes_call tk (fun _ _ _ _ h => h)) (pa_cons (pv 5) pa_nil)))
     (pss_cons (ps_if (pt_cmpR op_eq (pv 4) pe_int (nomark _)) (pss_cons (ps_if (pt_not (pt_val (pe_call (E := E) C_is_head.ok (hr.mono (by decide)) rfl C_is_head.mgx C_is_head.kp C_is_head.bd .nil (passes_call tk (fun _ _ _ _ h => h)) (pa_cons (pv 6) pa_nil)))) (pss_cons (ps_raise rfl tk (pmk_in XI0 (hr.mono (by decide)) tk (by exact rfl) T.g_0 (pa_cons pe_int pa_nil)))
     pss_nil) pss_nil)
     (pss_cons (ps_set (i := 2) sc_read_table.nd rfl (by first | exact Or.inl rfl | exact Or.inr rfl) (pv 6))
     pss_nil)) (pss_cons (ps_set (i := 7) sc_read_table.nd rfl (by first | exact Or.inl rfl | exact Or.inr rfl) (pe_call (E := E) C_row_of.ok (hr.mono (by decide)) rfl C_row_of.mgx C_row_of.kp C_row_of.bd .nil (passes_call tk (fun _ _ _ _ h => h)) (pa_cons (pv 2) (pa_cons (pv 6) pa_nil))))
     (pss_cons (ps_if (PW.pt (pw_or (pt_cmpR op_isN (pv 7) pe_non (nomark _)) (pw_or1 (pt_cmpR op_gt (pv 4) (pe_ix (r := rIxL K) ix_list (pv 2) pe_int (fun _ _ => rfl)) (nomark _))))) (pss_cons (ps_raise rfl tk (pmk_in XI0 (hr.mono (by decide)) tk (by exact rfl) T.g_0 (pa_cons (pe_op op_add (pv 4) pe_int) pa_nil)))
     pss_nil) pss_nil)
     (pss_cons (ps_expr (pe_bm PySem.F.plainAttrs_list PySem.F.slot_list_append PySem.F.type_list_append mt_append (pv 3) (pa_cons (pv 7) pa_nil)))
     pss_nil))))
     pss_nil)))
     (pss_cons (ps_if (PW.pt (pw_or (pt_cmpR op_ne (pe_ix (r := rIxL K) ix_list (pv 1) (pe_un un_neg pe_int) (fun _ _ => rfl)) pe_str (nomark _)) (pw_or1 (pt_cmpR op_lt (pe_callB (r := Mw.rLen K) call_len (by rfl) T.n_len b_len (pa_cons (pv 3) pa_nil)) (pe_callB (r := rMx2) (call_max2 rfl) (by rfl) T.n_max b_max (pa_cons pe_int (pa_cons (pe_ix (r := rIxL K) ix_list (pv 2) pe_int (fun _ _ => rfl)) pa_nil))) (nomark _))))) (pss_cons (ps_raise rfl tk (pmk_in XI0 (hr.mono (by decide)) tk (by exact rfl) T.g_0 (pa_cons (pe_callB (r := Mw.rLen K) call_len (by rfl) T.n_len b_len (pa_cons (pv 1) pa_nil)) pa_nil)))
     pss_nil) pss_nil)
     (pss_cons (ps_ret (pe_tup (pa_cons (pe_ix (r := rIxL K) ix_list (pv 2) pe_int (fun _ _ => rfl)) (pa_cons (pe_ix (r := rIxL K) ix_list (pv 2) pe_int (fun _ _ => rfl)) (pa_cons (pe_callTy (r := rTu K) call_tuple_of (by rfl) T.n_tuple b_tuple (pa_cons (pv 3) pa_nil)) pa_nil)))))
     pss_nil)))))), ?_⟩
    have hs : Hs ⟨H, G, E, cl⟩ G [] H := Hs.start hg
    have hm := Wp.ofSp (G0 := G) hm
    try dsimp only at hm
    unfold m_read_table at hm
    refine (show (_ : TS) _ ([some (.str p_text), none, none, none, none, none, none, none] : L2.St) _ from ?_)
    refine w_asg (K := K) (tg_name (i := 1) (R := (rK rS))) (EvN.evK (n_spl (e_var (K := K) (i := 0) (R := rS) (x := p_text) rfl rfl) e_str)) hs hm (fun p_lines vv1 G1 H1 e1 hs hv1 hm => ?_)
    obtain ⟨v_p_lines, rfl, h_p_lines⟩ := hv1
    refine (show (_ : TS) _ ([some (.str p_text), some v_p_lines, none, none, none, none, none, none] : L2.St) _ from ?_)
    refine w_asg (K := K) (tg_name (i := 2) (R := (rO (rK zI)))) (e_some nn_K (EvN.evK (e_lst (l_cons e_int (l_cons e_int (l_cons e_int l_nil))) (by decide)))) hs hm (fun p_head vv2 G2 H2 e2 hs hv2 hm => ?_)
    obtain ⟨v_p_head, rfl, h_p_head⟩ := hv2
    have h_p_lines := (((rK rS)).mono e2 h_p_lines)
    refine (show (_ : TS) _ ([some (.str p_text), some v_p_lines, some v_p_head, none, none, none, none, none] : L2.St) _ from ?_)
    refine w_asgN (K := K) (R := (rT (rP (rsC zI (rs1 zI))))) (i := 3) (e_lst l_nil (by decide)) hs hm (fun p_rows l_p_rows vs_p_rows G3 H3 e3 hs h3 hm => ?_)
    have h_p_lines := (((rK rS)).mono e3 h_p_lines)
    have h_p_head := (((rO (rK zI))).mono e3 h_p_head)
    have h_p_rows := h3
    refine (show (_ : TS) _ ([some (.str p_text), some v_p_lines, some v_p_head, some (.ref l_p_rows), none, none, none, none] : L2.St) _ from ?_)
    refine w_forM (K := K) (fun (s : (Option (List Int)) × (List (List (Int × Int)))) (σ : L2.St) (G : Hp) (O : Own) => match s with | (p_head, p_rows) => ∃ (v_p_head : V) (l_p_rows : Addr) (vs_p_rows : List V) (d_4 : Option V) (d_5 : Option V) (d_6 : Option V) (d_7 : Option V), σ = [some (.str p_text), some v_p_lines, some v_p_head, some (.ref l_p_rows), d_4, d_5, d_6, d_7] ∧ O = [(l_p_rows, .lst vs_p_rows)] ∧ ((rO (rK zI))).r K G v_p_head p_head ∧ RLs (rT (rP (rsC zI (rs1 zI)))) K G vs_p_rows p_rows) (i_enum (e_KL (EvN.evK (n_slice (e_KL (e_var (K := K) (i := 1) (R := (rK rS)) (x := p_lines) rfl h_p_lines)) o_none (o_some (K := K) (e_neg e_int)))))) (fun _ _ _ _ _ _ h => nomatch h) (tg_tup2) hs hm ⟨v_p_head, l_p_rows, vs_p_rows, none, none, none, none, rfl, rfl, h_p_head, h_p_rows⟩ (fun x4 s_ σ_ G1_4 G4 O_ H4 vv4 D4 Qb4 e4 w_ e14 hs hv4 E4 hm => ?_) (fun s_ σ_ G1_4 G4 O_ H4 e4 w_ e14 hs hm => ?_)
    · obtain ⟨p_head, p_rows⟩ := s_
      obtain ⟨v_p_head, l_p_rows, vs_p_rows, d_4, d_5, d_6, d_7, rfl, rfl, h_p_head, h_p_rows⟩ := w_
      have h_p_lines := (((rK rS)).mono e4 h_p_lines)
      have h_p_head := (((rO (rK zI))).mono e14 h_p_head)
      have h_p_rows := RLs.mono e14 h_p_rows
      obtain ⟨p_at, p_line⟩ := x4
      obtain ⟨v_p_at, _, rfl, h_p_at, v_p_line, rfl, h_p_line⟩ := hv4
      cases (show v_p_at = V.int p_at from h_p_at)
      cases (show v_p_line = V.str p_line from h_p_line)
      have b4 := Same.refl G4
      refine (show (_ : TS) _ ([some (.str p_text), some v_p_lines, some v_p_head, some (.ref l_p_rows), some (.int p_at), some (.str p_line), d_6, d_7] : L2.St) _ from ?_)
      unfold m_read_table_b14 at hm
      try dsimp only at hm
      refine w_asg (K := K) (tg_name (i := 6) (R := (rO (rK zI)))) (e_call (fm := ⟨H, G, E, cl⟩) (a_one (e_var (K := K) (i := 5) (R := rS) (x := p_line) rfl rfl))) hs hm (fun p_numbers vv5 G5 H5 e5 hs hv5 hm => ?_)
      obtain ⟨v_p_numbers, rfl, h_p_numbers⟩ := hv5
      have h_p_lines := (((rK rS)).mono e5 h_p_lines)
      have h_p_head := (((rO (rK zI))).mono e5 h_p_head)
      have h_p_rows := RLs.mono e5 h_p_rows
      have b4 := Same.trans b4 e5
      refine (show (_ : TS) _ ([some (.str p_text), some v_p_lines, some v_p_head, some (.ref l_p_rows), some (.int p_at), some (.str p_line), some v_p_numbers, d_7] : L2.St) _ from ?_)
      refine w_if (t_test (K := K) (e_eq srI (e_var (K := K) (i := 4) (R := zI) (x := p_at) rfl rfl) e_int)) hs hm (fun G6 H6 e6 hs hm => ?_) (fun G6 H6 e6 hs hm => ?_)
      · have h_p_lines := (((rK rS)).mono e6 h_p_lines)
        have h_p_head := (((rO (rK zI))).mono e6 h_p_head)
        have h_p_rows := RLs.mono e6 h_p_rows
        have h_p_numbers := (((rO (rK zI))).mono e6 h_p_numbers)
        have b4 := Same.trans b4 e6
        refine w_if (t_not (t_val (K := K) (e_call (fm := ⟨H, G, E, cl⟩) (a_one (e_var (K := K) (i := 6) (R := (rO (rK zI))) (x := p_numbers) rfl h_p_numbers))))) hs hm (fun G7 H7 e7 hs hm => ?_) (fun G7 H7 e7 hs hm => ?_)
        · have h_p_lines := (((rK rS)).mono e7 h_p_lines)
          have h_p_head := (((rO (rK zI))).mono e7 h_p_head)
          have h_p_rows := RLs.mono e7 h_p_rows
          have h_p_numbers := (((rO (rK zI))).mono e7 h_p_numbers)
          have b4 := Same.trans b4 e7
          exact w_raiseI (K := K) (a_one e_int) hs hm rfl
        · have h_p_lines := (((rK rS)).mono e7 h_p_lines)
          have h_p_head := (((rO (rK zI))).mono e7 h_p_head)
          have h_p_rows := RLs.mono e7 h_p_rows
          have h_p_numbers := (((rO (rK zI))).mono e7 h_p_numbers)
          have b4 := Same.trans b4 e7
          refine nx_of ?_
          try dsimp only
          refine (show (_ : TS) _ ([some (.str p_text), some v_p_lines, some v_p_head, some (.ref l_p_rows), some (.int p_at), some (.str p_line), some v_p_numbers, d_7] : L2.St) _ from ?_)
          refine w_asg (K := K) (tg_name (i := 2) (R := (rO (rK zI)))) (e_var (K := K) (i := 6) (R := (rO (rK zI))) (x := p_numbers) rfl h_p_numbers) hs hm (fun p_head vv8 G8 H8 e8 hs hv8 hm => ?_)
          obtain ⟨v_p_head, rfl, h_p_head⟩ := hv8
          have h_p_lines := (((rK rS)).mono e8 h_p_lines)
          have h_p_rows := RLs.mono e8 h_p_rows
          have h_p_numbers := (((rO (rK zI))).mono e8 h_p_numbers)
          have b4 := Same.trans b4 e8
          refine (show (_ : TS) _ ([some (.str p_text), some v_p_lines, some v_p_head, some (.ref l_p_rows), some (.int p_at), some (.str p_line), some v_p_numbers, d_7] : L2.St) _ from ?_)
          refine nx_of ?_
          try dsimp only
          refine (show (_ : TS) _ ([some (.str p_text), some v_p_lines, some v_p_head, some (.ref l_p_rows), some (.int p_at), some (.str p_line), some v_p_numbers, d_7] : L2.St) _ from ?_)
          exact E4.nx (p_head, p_rows) _ _ _ _ _ b4 ⟨v_p_head, l_p_rows, vs_p_rows, some (.int p_at), some (.str p_line), some v_p_numbers, d_7, rfl, rfl, h_p_head, h_p_rows⟩ (Same.refl _) hs hm.out
      · have h_p_lines := (((rK rS)).mono e6 h_p_lines)
        have h_p_head := (((rO (rK zI))).mono e6 h_p_head)
        have h_p_rows := RLs.mono e6 h_p_rows
        have h_p_numbers := (((rO (rK zI))).mono e6 h_p_numbers)
        have b4 := Same.trans b4 e6
        refine w_asg (K := K) (tg_name (i := 7) (R := (rO (rT (rP (rsC zI (rs1 zI))))))) (e_call (fm := ⟨H, G, E, cl⟩) (a_cons (e_get (e_var (K := K) (i := 2) (R := (rO (rK zI))) (x := p_head) rfl h_p_head)) (a_one (e_var (K := K) (i := 6) (R := (rO (rK zI))) (x := p_numbers) rfl h_p_numbers)))) hs hm (fun p_row vv9 G9 H9 e9 hs hv9 hm => ?_)
        obtain ⟨v_p_row, rfl, h_p_row⟩ := hv9
        have h_p_lines := (((rK rS)).mono e9 h_p_lines)
        have h_p_head := (((rO (rK zI))).mono e9 h_p_head)
        have h_p_rows := RLs.mono e9 h_p_rows
        have h_p_numbers := (((rO (rK zI))).mono e9 h_p_numbers)
        have b4 := Same.trans b4 e9
        refine (show (_ : TS) _ ([some (.str p_text), some v_p_lines, some v_p_head, some (.ref l_p_rows), some (.int p_at), some (.str p_line), some v_p_numbers, some v_p_row] : L2.St) _ from ?_)
        refine w_if (t_or (t_test (K := K) (e_isN (e_var (K := K) (i := 7) (R := (rO (rT (rP (rsC zI (rs1 zI)))))) (x := p_row) rfl h_p_row))) (t_test (K := K) (e_cmp (p := fun i j => decide (j < i)) (e_var (K := K) (i := 4) (R := zI) (x := p_at) rfl rfl) (e_ixL (e_KL (e_get (e_var (K := K) (i := 2) (R := (rO (rK zI))) (x := p_head) rfl h_p_head))) e_int)))) hs hm (fun G10 H10 e10 hs hm => ?_) (fun G10 H10 e10 hs hm => ?_)
        · have h_p_lines := (((rK rS)).mono e10 h_p_lines)
          have h_p_head := (((rO (rK zI))).mono e10 h_p_head)
          have h_p_rows := RLs.mono e10 h_p_rows
          have h_p_numbers := (((rO (rK zI))).mono e10 h_p_numbers)
          have h_p_row := (((rO (rT (rP (rsC zI (rs1 zI)))))).mono e10 h_p_row)
          have b4 := Same.trans b4 e10
          exact w_raiseI (K := K) (a_one (e_add (e_var (K := K) (i := 4) (R := zI) (x := p_at) rfl rfl) e_int)) hs hm rfl
        · have h_p_lines := (((rK rS)).mono e10 h_p_lines)
          have h_p_head := (((rO (rK zI))).mono e10 h_p_head)
          have h_p_rows := RLs.mono e10 h_p_rows
          have h_p_numbers := (((rO (rK zI))).mono e10 h_p_numbers)
          have h_p_row := (((rO (rT (rP (rsC zI (rs1 zI)))))).mono e10 h_p_row)
          have b4 := Same.trans b4 e10
          refine nx_of ?_
          try dsimp only
          refine (show (_ : TS) _ ([some (.str p_text), some v_p_lines, some v_p_head, some (.ref l_p_rows), some (.int p_at), some (.str p_line), some v_p_numbers, some v_p_row] : L2.St) _ from ?_)
          refine w_app (K := K) (i := 3) 0 (xs := p_rows) rfl rfl h_p_rows (e_get (e_var (K := K) (i := 7) (R := (rO (rT (rP (rsC zI (rs1 zI)))))) (x := p_row) rfl h_p_row)) hs hm (fun y11 w11 G11 H11 e11 hs h11 hm => ?_)
          have h_p_lines := (((rK rS)).mono e11 h_p_lines)
          have h_p_head := (((rO (rK zI))).mono e11 h_p_head)
          have h_p_numbers := (((rO (rK zI))).mono e11 h_p_numbers)
          have h_p_row := (((rO (rT (rP (rsC zI (rs1 zI)))))).mono e11 h_p_row)
          have b4 := Same.trans b4 e11
          have h_p_rows := h11
          generalize p_rows ++ [y11] = p_rows at hm h_p_rows
          generalize vs_p_rows ++ [w11] = vs_p_rows at hs h_p_rows
          refine nx_of ?_
          try dsimp only
          refine (show (_ : TS) _ ([some (.str p_text), some v_p_lines, some v_p_head, some (.ref l_p_rows), some (.int p_at), some (.str p_line), some v_p_numbers, some v_p_row] : L2.St) _ from ?_)
          exact E4.nx (p_head, p_rows) _ _ _ _ _ b4 ⟨v_p_head, l_p_rows, vs_p_rows, some (.int p_at), some (.str p_line), some v_p_numbers, some v_p_row, rfl, rfl, h_p_head, h_p_rows⟩ (Same.refl _) hs hm.out
    · obtain ⟨p_head, p_rows⟩ := s_
      obtain ⟨v_p_head, l_p_rows, vs_p_rows, d_4, d_5, d_6, d_7, rfl, rfl, h_p_head, h_p_rows⟩ := w_
      have h_p_lines := (((rK rS)).mono e4 h_p_lines)
      have h_p_head := (((rO (rK zI))).mono e14 h_p_head)
      have h_p_rows := RLs.mono e14 h_p_rows
      refine (show (_ : TS) _ ([some (.str p_text), some v_p_lines, some v_p_head, some (.ref l_p_rows), d_4, d_5, d_6, d_7] : L2.St) _ from ?_)
      try dsimp only at hm
      refine w_if (t_or (t_test (K := K) (e_ne srS (e_ixL (e_KL (e_var (K := K) (i := 1) (R := (rK rS)) (x := p_lines) rfl h_p_lines)) (e_neg e_int)) e_str)) (t_test (K := K) (e_cmp (p := fun i j => decide (i < j)) (e_lenO (i := 3) (l := l_p_rows) rfl (List.mem_of_getElem? (i := 0) rfl) h_p_rows) (e_max2 e_int (e_ixL (e_KL (e_get (e_var (K := K) (i := 2) (R := (rO (rK zI))) (x := p_head) rfl h_p_head))) e_int))))) hs hm (fun G12 H12 e12 hs hm => ?_) (fun G12 H12 e12 hs hm => ?_)
      · have h_p_lines := (((rK rS)).mono e12 h_p_lines)
        have h_p_head := (((rO (rK zI))).mono e12 h_p_head)
        have h_p_rows := RLs.mono e12 h_p_rows
        exact w_raiseI (K := K) (a_one (e_len sq_K (e_var (K := K) (i := 1) (R := (rK rS)) (x := p_lines) rfl h_p_lines))) hs hm rfl
      · have h_p_lines := (((rK rS)).mono e12 h_p_lines)
        have h_p_head := (((rO (rK zI))).mono e12 h_p_head)
        have h_p_rows := RLs.mono e12 h_p_rows
        refine nx_of ?_
        try dsimp only
        refine (show (_ : TS) _ ([some (.str p_text), some v_p_lines, some v_p_head, some (.ref l_p_rows), d_4, d_5, d_6, d_7] : L2.St) _ from ?_)
        have ng13 := (hs.at 0 rfl).2.1
        have eg13 := same_new (o := HO.lst vs_p_rows) ng13
        have hs := hs.give 0 rfl
        have h_p_rows : (rK (rT (rP (rsC zI (rs1 zI))))).r K _ (.ref l_p_rows) p_rows := ⟨l_p_rows, vs_p_rows, rfl, upd_same, RLs.mono eg13 h_p_rows⟩
        have h_p_lines := (((rK rS)).mono eg13 h_p_lines)
        have h_p_head := (((rO (rK zI))).mono eg13 h_p_head)
        exact w_ret0 (K := K) (e_tup (lnC (lnC ln1)) (a_cons (e_ixL (e_KL (e_get (e_var (K := K) (i := 2) (R := (rO (rK zI))) (x := p_head) rfl h_p_head))) e_int) (a_cons (e_ixL (e_KL (e_get (e_var (K := K) (i := 2) (R := (rO (rK zI))) (x := p_head) rfl h_p_head))) e_int) (a_one (e_tupleL (e_KL (e_var (K := K) (i := 3) (R := (rK (rT (rP (rsC zI (rs1 zI)))))) (x := p_rows) rfl h_p_rows)))))) (by decide)) hs hm fun r v G2 H2 hs2 hr2 hq => hq v G2 H2 hs2.fin hr2

theorem ok_law_far {P : Program} {w : World} {K : PySem.W.Frag} {mg : Str → Option Value} {base : Heap} {cl : Nat → Addr} {fa : Addr} {fd : FuncData} (F : Fun K "_law_far" "_law_far" s_law_far fa fd) (T : Txt K mg cl)  :
    FnOk P w K mg base (L2.CX P w) 1 fa fd ["script", "k"] (spP K cl (rsC (rL zI) (rs1 zI)) zI (fun a => m_law_far (a.1) (a.2))) := by
  refine F.okX sc_law_far (fun vs H Q E h => ?_) (fun cdv A outer s H vs Q E hr h => ?_)
  · obtain ⟨G, a, _, hS, _⟩ := h
    exact (lnC ln1) _ _ _ _ hS
  · obtain ⟨G, ⟨p_script, p_k⟩, hg, hS, hm⟩ := h
    obtain ⟨v_p_script, _, rfl, h_p_script, v_p_k, rfl, h_p_k⟩ := hS
    cases (show v_p_k = V.int p_k from h_p_k)
    refine ⟨_, (pss_cons (ps_if (pt_cmpR op_eq (pe_callB (r := Mw.rLen K) call_len (by rfl) T.n_len b_len (pa_cons (pv 0) pa_nil)) pe_int (nomark _)) (pss_cons (ps_ret (pe_op op_add (pe_op op_mul pe_int (pv 1)) pe_int))
     pss_nil) pss_nil)
     (pss_cons (ps_if (pt_cmpR op_lt (pv 1) (pe_callB (r := Mw.rLen K) call_len (by rfl) T.n_len b_len (pa_cons (pv 0) pa_nil)) (nomark _)) (pss_cons (ps_ret (pe_ix (r := rIxL K) ix_list (pv 0) (pv 1) (fun _ _ => rfl)))
     pss_nil) pss_nil)
     (pss_cons (ps_ret (pe_op op_add (pe_ix (r := rIxL K) ix_list (pv 0) (pe_op op_mod (pe_callTy call_int1 (by rfl) T.n_int b_int (pa_cons (pv 1) pa_nil)) (pe_callB (r := Mw.rLen K) call_len (by rfl) T.n_len b_len (pa_cons (pv 0) pa_nil))) (fun _ _ => rfl)) (pe_op op_mul pe_int (pv 1))))
     pss_nil))), ?_⟩
    have hs : Hs ⟨H, G, E, cl⟩ G [] H := Hs.start hg
    have hm := Wp.ofSp (G0 := G) hm
    try dsimp only at hm
    unfold m_law_far at hm
    refine (show (_ : TS) _ ([some v_p_script, some (.int p_k)] : L2.St) _ from ?_)
    refine w_if (t_test (K := K) (e_eq srI (e_len sq_L (e_var (K := K) (i := 0) (R := (rL zI)) (x := p_script) rfl h_p_script)) e_int)) hs hm (fun G1 H1 e1 hs hm => ?_) (fun G1 H1 e1 hs hm => ?_)
    · have h_p_script := (((rL zI)).mono e1 h_p_script)
      exact w_ret0 (K := K) (e_add (e_mul e_int (e_var (K := K) (i := 1) (R := zI) (x := p_k) rfl rfl)) e_int) hs hm fun r v G2 H2 hs2 hr2 hq => hq v G2 H2 hs2.fin hr2
    · have h_p_script := (((rL zI)).mono e1 h_p_script)
      refine nx_of ?_
      try dsimp only
      refine (show (_ : TS) _ ([some v_p_script, some (.int p_k)] : L2.St) _ from ?_)
      refine w_if (t_test (K := K) (e_cmp (p := fun i j => decide (i < j)) (e_var (K := K) (i := 1) (R := zI) (x := p_k) rfl rfl) (e_len sq_L (e_var (K := K) (i := 0) (R := (rL zI)) (x := p_script) rfl h_p_script)))) hs hm (fun G2 H2 e2 hs hm => ?_) (fun G2 H2 e2 hs hm => ?_)
      · have h_p_script := (((rL zI)).mono e2 h_p_script)
        exact w_ret0 (K := K) (e_ixL (e_var (K := K) (i := 0) (R := (rL zI)) (x := p_script) rfl h_p_script) (e_var (K := K) (i := 1) (R := zI) (x := p_k) rfl rfl)) hs hm fun r v G2 H2 hs2 hr2 hq => hq v G2 H2 hs2.fin hr2
      · have h_p_script := (((rL zI)).mono e2 h_p_script)
        refine nx_of ?_
        try dsimp only
        refine (show (_ : TS) _ ([some v_p_script, some (.int p_k)] : L2.St) _ from ?_)
        exact w_ret0 (K := K) (e_add (e_ixL (e_var (K := K) (i := 0) (R := (rL zI)) (x := p_script) rfl h_p_script) (e_mod (e_intI (e_var (K := K) (i := 1) (R := zI) (x := p_k) rfl rfl)) (e_len sq_L (e_var (K := K) (i := 0) (R := (rL zI)) (x := p_script) rfl h_p_script)))) (e_mul e_int (e_var (K := K) (i := 1) (R := zI) (x := p_k) rfl rfl))) hs hm fun r v G2 H2 hs2 hr2 hq => hq v G2 H2 hs2.fin hr2

theorem ok_law_parts {P : Program} {w : World} {K : PySem.W.Frag} {mg : Str → Option Value} {base : Heap} {cl : Nat → Addr} {fa : Addr} {fd : FuncData} (F : Fun K "_law_parts" "_law_parts" s_law_parts fa fd) (T : Txt K mg cl)  :
    FnOk P w K mg base (L2.CX P w) 1 fa fd ["cell", "sizes"] (spP K cl (rsC zI (rs1 (rK zI))) (rK zI) (fun a => m_law_parts (a.1) (a.2))) := by
  refine F.okX sc_law_parts (fun vs H Q E h => ?_) (fun cdv A outer s H vs Q E hr h => ?_)
  · obtain ⟨G, a, _, hS, _⟩ := h
    exact (lnC ln1) _ _ _ _ hS
  · obtain ⟨G, ⟨p_cell, p_sizes⟩, hg, hS, hm⟩ := h
    obtain ⟨v_p_cell, _, rfl, h_p_cell, v_p_sizes, rfl, h_p_sizes⟩ := hS
    cases (show v_p_cell = V.int p_cell from h_p_cell)
    refine ⟨_, (pss_cons (ps_set (i := 2) sc_law_parts.nd rfl (by first | exact Or.inl rfl | exact Or.inr rfl) (pe_lst pa_nil))
     (pss_cons (ps_set (i := 3) sc_law_parts.nd rfl (by first | exact Or.inl rfl | exact Or.inr rfl) (pe_op op_sub (pv 0) (pe_op op_pow pe_int pe_int)))
     (pss_cons (ps_for (passes_of rfl) rfl (pi_range1 rfl T.n_range (pa_cons (pe_callB (r := Mw.rLen K) call_len (by rfl) T.n_len b_len (pa_cons (pv 1) pa_nil)) pa_nil)) (pg_name (i := 4) sc_law_parts.nd rfl (by first | exact Or.inl rfl | exact Or.inr rfl)) (pss_cons (ps_if (pt_cmpR op_ge (pv 3) pe_int (nomark _)) (pss_cons (ps_expr (pe_bm PySem.F.plainAttrs_list PySem.F.slot_list_append PySem.F.type_list_append mt_append (pv 2) (pa_cons (pe_op op_mod (pe_callTy call_int1 (by rfl) T.n_int b_int (pa_cons (pv 3) pa_nil)) (pe_ix (r := rIxL K) ix_list (pv 1) (pv 4) (fun _ _ => rfl))) pa_nil)))
     (pss_cons (ps_set (i := 3) sc_law_parts.nd rfl (by first | exact Or.inl rfl | exact Or.inr rfl) (pe_op op_fdiv (pv 3) (pe_ix (r := rIxL K) ix_list (pv 1) (pv 4) (fun _ _ => rfl))))
     pss_nil)) (pss_cons (ps_set (i := 5) sc_law_parts.nd rfl (by first | exact Or.inl rfl | exact Or.inr rfl) (pe_op op_mod (pe_callTy call_int1 (by rfl) T.n_int b_int (pa_cons (pe_op op_add (pe_op op_add (pe_op op_mul (pv 0) pe_int) (pe_op op_mul (pv 4) pe_int)) pe_int) pa_nil)) pe_int))
     (pss_cons (ps_set (i := 5) sc_law_parts.nd rfl (by first | exact Or.inl rfl | exact Or.inr rfl) (pe_op op_mod (pe_callTy call_int1 (by rfl) T.n_int b_int (pa_cons (pe_op op_add (pe_op op_add (pe_op op_mul (pv 5) (pv 5)) (pe_op op_mul pe_int (pv 4))) pe_int) pa_nil)) pe_int))
     (pss_cons (ps_expr (pe_bm PySem.F.plainAttrs_list PySem.F.slot_list_append PySem.F.type_list_append mt_append (pv 2) (pa_cons (pe_op op_mod (pe_callTy call_int1 (by rfl) T.n_int b_int (pa_cons (pv 5) pa_nil)) (pe_ix (r := rIxL K) ix_list (pv 1) (pv 4) (fun _ _ => rfl))) pa_nil)))
     pss_nil))))
     pss_nil))
     (pss_cons (ps_ret (pv 2))
     pss_nil)))), ?_⟩
    have hs : Hs ⟨H, G, E, cl⟩ G [] H := Hs.start hg
    have hm := Wp.ofSp (G0 := G) hm
    try dsimp only at hm
    unfold m_law_parts at hm
    refine (show (_ : TS) _ ([some (.int p_cell), some v_p_sizes, none, none, none, none] : L2.St) _ from ?_)
    refine w_asgN (K := K) (R := zI) (i := 2) (e_lst l_nil (by decide)) hs hm (fun p_parts l_p_parts vs_p_parts G1 H1 e1 hs h1 hm => ?_)
    have h_p_sizes := (((rK zI)).mono e1 h_p_sizes)
    have h_p_parts := h1
    refine (show (_ : TS) _ ([some (.int p_cell), some v_p_sizes, some (.ref l_p_parts), none, none, none] : L2.St) _ from ?_)
    refine w_asg (K := K) (tg_name (i := 3) (R := zI)) (e_sub (e_var (K := K) (i := 0) (R := zI) (x := p_cell) rfl rfl) (e_pow e_int e_int)) hs hm (fun p_rest vv2 G2 H2 e2 hs hv2 hm => ?_)
    obtain ⟨v_p_rest, rfl, h_p_rest⟩ := hv2
    cases (show v_p_rest = V.int p_rest from h_p_rest)
    have h_p_sizes := (((rK zI)).mono e2 h_p_sizes)
    have h_p_parts := RLs.mono e2 h_p_parts
    refine (show (_ : TS) _ ([some (.int p_cell), some v_p_sizes, some (.ref l_p_parts), some (.int p_rest), none, none] : L2.St) _ from ?_)
    refine w_forM (K := K) (fun (s : (List Int) × Int) (σ : L2.St) (G : Hp) (O : Own) => match s with | (p_parts, p_rest) => ∃ (l_p_parts : Addr) (vs_p_parts : List V) (d_4 : Option V) (d_5 : Option V), σ = [some (.int p_cell), some v_p_sizes, some (.ref l_p_parts), some (.int p_rest), d_4, d_5] ∧ O = [(l_p_parts, .lst vs_p_parts)] ∧ RLs zI K G vs_p_parts p_parts) (i_rng1 (e_len sq_K (e_var (K := K) (i := 1) (R := (rK zI)) (x := p_sizes) rfl h_p_sizes))) (fun _ _ _ _ _ _ h => nomatch h) (tg_name (i := 4) (R := zI)) hs hm ⟨l_p_parts, vs_p_parts, none, none, rfl, rfl, h_p_parts⟩ (fun p_k s_ σ_ G1_3 G3 O_ H3 vv3 D3 Qb3 e3 w_ e13 hs hv3 E3 hm => ?_) (fun s_ σ_ G1_3 G3 O_ H3 e3 w_ e13 hs hm => ?_)
    · obtain ⟨p_parts, p_rest⟩ := s_
      obtain ⟨l_p_parts, vs_p_parts, d_4, d_5, rfl, rfl, h_p_parts⟩ := w_
      have h_p_sizes := (((rK zI)).mono e3 h_p_sizes)
      have h_p_parts := RLs.mono e13 h_p_parts
      obtain ⟨v_p_k, rfl, h_p_k⟩ := hv3
      cases (show v_p_k = V.int p_k from h_p_k)
      have b3 := Same.refl G3
      refine (show (_ : TS) _ ([some (.int p_cell), some v_p_sizes, some (.ref l_p_parts), some (.int p_rest), some (.int p_k), d_5] : L2.St) _ from ?_)
      unfold m_law_parts_b11 at hm
      try dsimp only at hm
      refine w_if (t_test (K := K) (e_cmp (p := fun i j => decide (j ≤ i)) (e_var (K := K) (i := 3) (R := zI) (x := p_rest) rfl rfl) e_int)) hs hm (fun G4 H4 e4 hs hm => ?_) (fun G4 H4 e4 hs hm => ?_)
      · have h_p_sizes := (((rK zI)).mono e4 h_p_sizes)
        have h_p_parts := RLs.mono e4 h_p_parts
        have b3 := Same.trans b3 e4
        refine w_app (K := K) (i := 2) 0 (xs := p_parts) rfl rfl h_p_parts (e_mod (e_intI (e_var (K := K) (i := 3) (R := zI) (x := p_rest) rfl rfl)) (e_ixL (e_KL (e_var (K := K) (i := 1) (R := (rK zI)) (x := p_sizes) rfl h_p_sizes)) (e_var (K := K) (i := 4) (R := zI) (x := p_k) rfl rfl))) hs hm (fun y5 w5 G5 H5 e5 hs h5 hm => ?_)
        have h_p_sizes := (((rK zI)).mono e5 h_p_sizes)
        have b3 := Same.trans b3 e5
        have h_p_parts := h5
        generalize p_parts ++ [y5] = p_parts at hm h_p_parts
        generalize vs_p_parts ++ [w5] = vs_p_parts at hs h_p_parts
        refine w_asg (K := K) (tg_name (i := 3) (R := zI)) (e_fdiv (e_var (K := K) (i := 3) (R := zI) (x := p_rest) rfl rfl) (e_ixL (e_KL (e_var (K := K) (i := 1) (R := (rK zI)) (x := p_sizes) rfl h_p_sizes)) (e_var (K := K) (i := 4) (R := zI) (x := p_k) rfl rfl))) hs hm (fun p_rest vv6 G6 H6 e6 hs hv6 hm => ?_)
        obtain ⟨v_p_rest, rfl, h_p_rest⟩ := hv6
        cases (show v_p_rest = V.int p_rest from h_p_rest)
        have h_p_sizes := (((rK zI)).mono e6 h_p_sizes)
        have h_p_parts := RLs.mono e6 h_p_parts
        have b3 := Same.trans b3 e6
        refine (show (_ : TS) _ ([some (.int p_cell), some v_p_sizes, some (.ref l_p_parts), some (.int p_rest), some (.int p_k), d_5] : L2.St) _ from ?_)
        refine nx_of ?_
        try dsimp only
        refine (show (_ : TS) _ ([some (.int p_cell), some v_p_sizes, some (.ref l_p_parts), some (.int p_rest), some (.int p_k), d_5] : L2.St) _ from ?_)
        exact E3.nx (p_parts, p_rest) _ _ _ _ _ b3 ⟨l_p_parts, vs_p_parts, some (.int p_k), d_5, rfl, rfl, h_p_parts⟩ (Same.refl _) hs hm.out
      · have h_p_sizes := (((rK zI)).mono e4 h_p_sizes)
        have h_p_parts := RLs.mono e4 h_p_parts
        have b3 := Same.trans b3 e4
        refine w_asg (K := K) (tg_name (i := 5) (R := zI)) (e_mod (e_intI (e_add (e_add (e_mul (e_var (K := K) (i := 0) (R := zI) (x := p_cell) rfl rfl) e_int) (e_mul (e_var (K := K) (i := 4) (R := zI) (x := p_k) rfl rfl) e_int)) e_int)) e_int) hs hm (fun p_mixed vv7 G7 H7 e7 hs hv7 hm => ?_)
        obtain ⟨v_p_mixed, rfl, h_p_mixed⟩ := hv7
        cases (show v_p_mixed = V.int p_mixed from h_p_mixed)
        have h_p_sizes := (((rK zI)).mono e7 h_p_sizes)
        have h_p_parts := RLs.mono e7 h_p_parts
        have b3 := Same.trans b3 e7
        refine (show (_ : TS) _ ([some (.int p_cell), some v_p_sizes, some (.ref l_p_parts), some (.int p_rest), some (.int p_k), some (.int p_mixed)] : L2.St) _ from ?_)
        refine w_asg (K := K) (tg_name (i := 5) (R := zI)) (e_mod (e_intI (e_add (e_add (e_mul (e_var (K := K) (i := 5) (R := zI) (x := p_mixed) rfl rfl) (e_var (K := K) (i := 5) (R := zI) (x := p_mixed) rfl rfl)) (e_mul e_int (e_var (K := K) (i := 4) (R := zI) (x := p_k) rfl rfl))) e_int)) e_int) hs hm (fun p_mixed vv8 G8 H8 e8 hs hv8 hm => ?_)
        obtain ⟨v_p_mixed, rfl, h_p_mixed⟩ := hv8
        cases (show v_p_mixed = V.int p_mixed from h_p_mixed)
        have h_p_sizes := (((rK zI)).mono e8 h_p_sizes)
        have h_p_parts := RLs.mono e8 h_p_parts
        have b3 := Same.trans b3 e8
        refine (show (_ : TS) _ ([some (.int p_cell), some v_p_sizes, some (.ref l_p_parts), some (.int p_rest), some (.int p_k), some (.int p_mixed)] : L2.St) _ from ?_)
        refine w_app (K := K) (i := 2) 0 (xs := p_parts) rfl rfl h_p_parts (e_mod (e_intI (e_var (K := K) (i := 5) (R := zI) (x := p_mixed) rfl rfl)) (e_ixL (e_KL (e_var (K := K) (i := 1) (R := (rK zI)) (x := p_sizes) rfl h_p_sizes)) (e_var (K := K) (i := 4) (R := zI) (x := p_k) rfl rfl))) hs hm (fun y9 w9 G9 H9 e9 hs h9 hm => ?_)
        have h_p_sizes := (((rK zI)).mono e9 h_p_sizes)
        have b3 := Same.trans b3 e9
        have h_p_parts := h9
        generalize p_parts ++ [y9] = p_parts at hm h_p_parts
        generalize vs_p_parts ++ [w9] = vs_p_parts at hs h_p_parts
        refine nx_of ?_
        try dsimp only
        refine (show (_ : TS) _ ([some (.int p_cell), some v_p_sizes, some (.ref l_p_parts), some (.int p_rest), some (.int p_k), some (.int p_mixed)] : L2.St) _ from ?_)
        exact E3.nx (p_parts, p_rest) _ _ _ _ _ b3 ⟨l_p_parts, vs_p_parts, some (.int p_k), some (.int p_mixed), rfl, rfl, h_p_parts⟩ (Same.refl _) hs hm.out
    · obtain ⟨p_parts, p_rest⟩ := s_
      obtain ⟨l_p_parts, vs_p_parts, d_4, d_5, rfl, rfl, h_p_parts⟩ := w_
      have h_p_sizes := (((rK zI)).mono e3 h_p_sizes)
      have h_p_parts := RLs.mono e13 h_p_parts
      refine (show (_ : TS) _ ([some (.int p_cell), some v_p_sizes, some (.ref l_p_parts), some (.int p_rest), d_4, d_5] : L2.St) _ from ?_)
      try dsimp only at hm
      have ng10 := (hs.at 0 rfl).2.1
      have eg10 := same_new (o := HO.lst vs_p_parts) ng10
      have hs := hs.give 0 rfl
      have h_p_parts : (rK zI).r K _ (.ref l_p_parts) p_parts := ⟨l_p_parts, vs_p_parts, rfl, upd_same, RLs.mono eg10 h_p_parts⟩
      have h_p_sizes := (((rK zI)).mono eg10 h_p_sizes)
      exact w_ret0 (K := K) (e_var (K := K) (i := 2) (R := (rK zI)) (x := p_parts) rfl h_p_parts) hs hm fun r v G2 H2 hs2 hr2 hq => hq v G2 H2 hs2.fin hr2

theorem ok_law_is_integer {P : Program} {w : World} {K : PySem.W.Frag} {mg : Str → Option Value} {base : Heap} {cl : Nat → Addr} {fa : Addr} {fd : FuncData} (F : Fun K "_law_is_integer" "_law_is_integer" s_law_is_integer fa fd) (T : Txt K mg cl)  :
    FnOk P w K mg base (L2.CX P w) 1 fa fd ["actual"] (spP K cl (rs1 (rO zI)) rB (fun a => m_law_is_integer a)) := by
  refine F.okX sc_law_is_integer (fun vs H Q E h => ?_) (fun cdv A outer s H vs Q E hr h => ?_)
  · obtain ⟨G, a, _, hS, _⟩ := h
    exact ln1 _ _ _ _ hS
  · obtain ⟨G, p_actual, hg, hS, hm⟩ := h
    obtain ⟨v_p_actual, rfl, h_p_actual⟩ := hS
    refine ⟨_, (pss_cons (ps_ret (pe_and (pe_callB (r := rIsi K) call_isi (by rfl) T.n_isinstance b_isinstance (pa_cons (pv 0) (pa_cons (pe_bltn (v := .ty "int") (by rfl) T.n_int b_int rfl) pa_nil))) (pe_one (pe_not (pe_callB (r := rIsi K) call_isi (by rfl) T.n_isinstance b_isinstance (pa_cons (pv 0) (pa_cons (pe_bltn (v := .ty "bool") (by rfl) T.n_bool b_bool rfl) pa_nil)))))))
     pss_nil), ?_⟩
    have hs : Hs ⟨H, G, E, cl⟩ G [] H := Hs.start hg
    have hm := Wp.ofSp (G0 := G) hm
    try dsimp only at hm
    unfold m_law_is_integer at hm
    refine (show (_ : TS) _ ([some v_p_actual] : L2.St) _ from ?_)
    exact w_ret0 (K := K) (e_and (e_isi (g := fun o => o.isSome) ty_OI isi_OI_int (e_var (K := K) (i := 0) (R := (rO zI)) (x := p_actual) rfl h_p_actual)) (e_not (e_isi (g := fun _ => false) ty_OI isi_OI_bool (e_var (K := K) (i := 0) (R := (rO zI)) (x := p_actual) rfl h_p_actual)))) hs hm fun r v G2 H2 hs2 hr2 hq => hq v G2 H2 hs2.fin hr2

theorem ok_law_table {P : Program} {w : World} {K : PySem.W.Frag} {mg : Str → Option Value} {base : Heap} {cl : Nat → Addr} {fa : Addr} {fd : FuncData} (F : Fun K "_law_table" "_law_table" s_law_table fa fd) (T : Txt K mg cl) (C_law_parts : Cal P w K mg base "_law_parts" 1 ["cell", "sizes"] (spP K cl (rsC zI (rs1 (rK zI))) (rK zI) (fun a => m_law_parts (a.1) (a.2)))) (C_law_far : Cal P w K mg base "_law_far" 1 ["script", "k"] (spP K cl (rsC (rL zI) (rs1 zI)) zI (fun a => m_law_far (a.1) (a.2)))) :
    FnOk P w K mg base (L2.CX P w) 2 fa fd ["script", "at", "most"] (spP K cl (rsC (rL zI) (rsC zI (rs1 zI))) (rP (rsC zI (rsC zI (rs1 (rT (rT (rP (rsC zI (rs1 zI))))))))) (fun a => m_law_table (a.1) (a.2.1) (a.2.2))) := by
  refine F.okX sc_law_table (fun vs H Q E h => ?_) (fun cdv A outer s H vs Q E hr h => ?_)
  · obtain ⟨G, a, _, hS, _⟩ := h
    exact (lnC (lnC ln1)) _ _ _ _ hS
  · obtain ⟨G, ⟨p_script, p_at, p_most⟩, hg, hS, hm⟩ := h
    obtain ⟨v_p_script, _, rfl, h_p_script, v_p_at, _, rfl, h_p_at, v_p_most, rfl, h_p_most⟩ := hS
    cases (show v_p_at = V.int p_at from h_p_at)
    cases (show v_p_most = V.int p_most from h_p_most)
    have tk : Takes (cxOf (L2.CX P w) P w K mg base N_law_table "_law_table" (defScope s_law_table) fa cdv A outer s H E) (fun cls d _ H => E cls d H) := takes_of rfl rfl rfl rfl
    refine ⟨_, (pss_cons (ps_set (i := 3) sc_law_table.nd rfl (by first | exact Or.inl rfl | exact Or.inr rfl) (pe_call (E := E) C_law_parts.ok (hr.mono (by decide)) rfl C_law_parts.mgx C_law_parts.kp C_law_parts.bd .nil (passes_call tk (fun _ _ _ _ h => h)) (pa_cons (pe_call (E := E) C_law_far.ok (hr.mono (by decide)) rfl C_law_far.mgx C_law_far.kp C_law_far.bd .nil (passes_call tk (fun _ _ _ _ h => h)) (pa_cons (pv 0) (pa_cons (pv 1) pa_nil))) (pa_cons (pe_lst (pa_cons pe_int (pa_cons pe_int (pa_cons (pv 2) (pa_cons pe_int pa_nil))))) pa_nil))))
     (pss_cons (ps_set (i := 4) sc_law_table.nd rfl (by first | exact Or.inl rfl | exact Or.inr rfl) pe_int)
     (pss_cons (ps_if (pt_cmpR op_eq (pe_ix (r := rIxL K) ix_list (pv 3) pe_int (fun _ _ => rfl)) pe_int (nomark _)) (pss_cons (ps_set (i := 4) sc_law_table.nd rfl (by first | exact Or.inl rfl | exact Or.inr rfl) (pe_ix (r := rIxL K) ix_list (pe_lst (pa_cons pe_int (pa_cons pe_int (pa_cons pe_int (pa_cons pe_int (pa_cons pe_int (pa_cons pe_int pa_nil))))))) (pe_ix (r := rIxL K) ix_list (pv 3) pe_int (fun _ _ => rfl)) (fun _ _ => rfl)))
     pss_nil) pss_nil)
     (pss_cons (ps_set (i := 5) sc_law_table.nd rfl (by first | exact Or.inl rfl | exact Or.inr rfl) (pe_lst pa_nil))
     (pss_cons (ps_for (passes_of rfl) rfl (pi_range1 rfl T.n_range (pa_cons (pe_op op_add pe_int (pe_ix (r := rIxL K) ix_list (pv 3) pe_int (fun _ _ => rfl))) pa_nil)) (pg_name (i := 6) sc_law_table.nd rfl (by first | exact Or.inl rfl | exact Or.inr rfl)) (pss_cons (ps_set (i := 7) sc_law_table.nd rfl (by first | exact Or.inl rfl | exact Or.inr rfl) (pe_call (E := E) C_law_parts.ok (hr.mono (by decide)) rfl C_law_parts.mgx C_law_parts.kp C_law_parts.bd .nil (passes_call tk (fun _ _ _ _ h => h)) (pa_cons (pe_call (E := E) C_law_far.ok (hr.mono (by decide)) rfl C_law_far.mgx C_law_far.kp C_law_far.bd .nil (passes_call tk (fun _ _ _ _ h => h)) (pa_cons (pv 0) (pa_cons (pe_op op_add (pe_op op_add (pv 1) pe_int) (pv 6)) pa_nil))) (pa_cons (pe_op op_rep (pe_lst (pa_cons pe_int (pa_cons pe_int pa_nil))) (pe_ix (r := rIxL K) ix_list (pe_lst (pa_cons pe_int (pa_cons pe_int (pa_cons pe_int pa_nil)))) (pe_ix (r := rIxL K) ix_list (pv 3) pe_int (fun _ _ => rfl)) (fun _ _ => rfl))) pa_nil))))
     (pss_cons (ps_expr (pe_bm PySem.F.plainAttrs_list PySem.F.slot_list_append PySem.F.type_list_append mt_append (pv 5) (pa_cons (pe_callTy (r := rTu K) call_tuple_of (by rfl) T.n_tuple b_tuple (pa_cons (pe_lc (own := [("i", 8)]) rfl sc_law_table.nd (pi_range1 rfl T.n_range (pa_cons (pe_op op_fdiv (pe_callB (r := Mw.rLen K) call_len (by rfl) T.n_len b_len (pa_cons (pv 7) pa_nil)) pe_int) pa_nil)) (blkOk_by (own := [("i", 8)]) (N := N_law_table) (sc := defScope s_law_table) (by decide +kernel)) (fun _ _ _ _ _ => (pg_name (i := 8) sc_law_table.nd rfl (by first | exact Or.inl rfl | exact Or.inr rfl))) (fun _ _ _ _ _ => pts_nil) (fun _ _ _ _ _ => (pe_tup (pa_cons (pe_op op_mod (pe_callTy call_int1 (by rfl) T.n_int b_int (pa_cons (pe_ix (r := rIxL K) ix_list (pv 7) (pe_op op_mul pe_int (pv 8)) (fun _ _ => rfl)) pa_nil)) (pe_op op_add pe_int (pe_ix (r := rIxL K) ix_list (pv 3) pe_int (fun _ _ => rfl)))) (pa_cons (pe_op op_mod (pe_callTy call_int1 (by rfl) T.n_int b_int (pa_cons (pe_ix (r := rIxL K) ix_list (pv 7) (pe_op op_add (pe_op op_mul pe_int (pv 8)) pe_int) (fun _ _ => rfl)) pa_nil)) (pv 4)) pa_nil))))) pa_nil)) pa_nil)))
     pss_nil)))
     (pss_cons (ps_ret (pe_tup (pa_cons (pe_ix (r := rIxL K) ix_list (pv 3) pe_int (fun _ _ => rfl)) (pa_cons (pe_op op_add pe_int (pe_ix (r := rIxL K) ix_list (pv 3) pe_int (fun _ _ => rfl))) (pa_cons (pe_callTy (r := rTu K) call_tuple_of (by rfl) T.n_tuple b_tuple (pa_cons (pv 5) pa_nil)) pa_nil)))))
     pss_nil)))))), ?_⟩
    have hs : Hs ⟨H, G, E, cl⟩ G [] H := Hs.start hg
    have hm := Wp.ofSp (G0 := G) hm
    try dsimp only at hm
    unfold m_law_table at hm
    refine (show (_ : TS) _ ([some v_p_script, some (.int p_at), some (.int p_most), none, none, none, none, none, none] : L2.St) _ from ?_)
    refine w_asg (K := K) (tg_name (i := 3) (R := (rK zI))) (e_call (fm := ⟨H, G, E, cl⟩) (a_cons (e_call (fm := ⟨H, G, E, cl⟩) (a_cons (e_var (K := K) (i := 0) (R := (rL zI)) (x := p_script) rfl h_p_script) (a_one (e_var (K := K) (i := 1) (R := zI) (x := p_at) rfl rfl)))) (a_one (EvN.evK (e_lst (l_cons e_int (l_cons e_int (l_cons (e_var (K := K) (i := 2) (R := zI) (x := p_most) rfl rfl) (l_cons e_int l_nil)))) (by decide)))))) hs hm (fun p_head vv1 G1 H1 e1 hs hv1 hm => ?_)
    obtain ⟨v_p_head, rfl, h_p_head⟩ := hv1
    have h_p_script := (((rL zI)).mono e1 h_p_script)
    refine (show (_ : TS) _ ([some v_p_script, some (.int p_at), some (.int p_most), some v_p_head, none, none, none, none, none] : L2.St) _ from ?_)
    refine w_asg (K := K) (tg_name (i := 4) (R := zI)) e_int hs hm (fun p_answers vv2 G2 H2 e2 hs hv2 hm => ?_)
    obtain ⟨v_p_answers, rfl, h_p_answers⟩ := hv2
    cases (show v_p_answers = V.int p_answers from h_p_answers)
    have h_p_script := (((rL zI)).mono e2 h_p_script)
    have h_p_head := (((rK zI)).mono e2 h_p_head)
    refine (show (_ : TS) _ ([some v_p_script, some (.int p_at), some (.int p_most), some v_p_head, some (.int p_answers), none, none, none, none] : L2.St) _ from ?_)
    refine w_ifJ (k := fun s_ => (m_law_table_j4 p_script p_at p_head s_)) (fun (p_answers : Int) (σ : L2.St) (G : Hp) (O : Own) => σ = [some v_p_script, some (.int p_at), some (.int p_most), some v_p_head, some (.int p_answers), none, none, none, none] ∧ O = []) (t_test (K := K) (e_eq srI (e_ixL (e_KL (e_var (K := K) (i := 3) (R := (rK zI)) (x := p_head) rfl h_p_head)) e_int) e_int)) hs hm (fun p_answers σ_ G1_3 G3 O_ H3 e3 w_ e13 hs hm => ?_) (fun G3 H3 J3 e3 hs hm => ?_) (fun G3 H3 J3 e3 hs hm => ?_)
    · obtain ⟨rfl, rfl⟩ := w_
      have h_p_script := (((rL zI)).mono e3 h_p_script)
      have h_p_head := (((rK zI)).mono e3 h_p_head)
      refine (show (_ : TS) _ ([some v_p_script, some (.int p_at), some (.int p_most), some v_p_head, some (.int p_answers), none, none, none, none] : L2.St) _ from ?_)
      unfold m_law_table_j4 at hm
      try dsimp only at hm
      refine w_asgN (K := K) (R := (rT (rP (rsC zI (rs1 zI))))) (i := 5) (e_lst l_nil (by decide)) hs hm (fun p_rows l_p_rows vs_p_rows G5 H5 e5 hs h5 hm => ?_)
      have h_p_script := (((rL zI)).mono e5 h_p_script)
      have h_p_head := (((rK zI)).mono e5 h_p_head)
      have h_p_rows := h5
      refine (show (_ : TS) _ ([some v_p_script, some (.int p_at), some (.int p_most), some v_p_head, some (.int p_answers), some (.ref l_p_rows), none, none, none] : L2.St) _ from ?_)
      refine w_forM (K := K) (fun (p_rows : (List (List (Int × Int)))) (σ : L2.St) (G : Hp) (O : Own) => ∃ (l_p_rows : Addr) (vs_p_rows : List V) (d_6 : Option V) (d_7 : Option V), σ = [some v_p_script, some (.int p_at), some (.int p_most), some v_p_head, some (.int p_answers), some (.ref l_p_rows), d_6, d_7, none] ∧ O = [(l_p_rows, .lst vs_p_rows)] ∧ RLs (rT (rP (rsC zI (rs1 zI)))) K G vs_p_rows p_rows) (i_rng1 (e_add e_int (e_ixL (e_KL (e_var (K := K) (i := 3) (R := (rK zI)) (x := p_head) rfl h_p_head)) e_int))) (fun _ _ _ _ _ _ h => nomatch h) (tg_name (i := 6) (R := zI)) hs hm ⟨l_p_rows, vs_p_rows, none, none, rfl, rfl, h_p_rows⟩ (fun p_k p_rows σ_ G1_6 G6 O_ H6 vv6 D6 Qb6 e6 w_ e16 hs hv6 E6 hm => ?_) (fun p_rows σ_ G1_6 G6 O_ H6 e6 w_ e16 hs hm => ?_)
      · obtain ⟨l_p_rows, vs_p_rows, d_6, d_7, rfl, rfl, h_p_rows⟩ := w_
        have h_p_script := (((rL zI)).mono e6 h_p_script)
        have h_p_head := (((rK zI)).mono e6 h_p_head)
        have h_p_rows := RLs.mono e16 h_p_rows
        obtain ⟨v_p_k, rfl, h_p_k⟩ := hv6
        cases (show v_p_k = V.int p_k from h_p_k)
        have b6 := Same.refl G6
        refine (show (_ : TS) _ ([some v_p_script, some (.int p_at), some (.int p_most), some v_p_head, some (.int p_answers), some (.ref l_p_rows), some (.int p_k), d_7, none] : L2.St) _ from ?_)
        unfold m_law_table_b11 at hm
        try dsimp only at hm
        refine w_asg (K := K) (tg_name (i := 7) (R := (rK zI))) (e_call (fm := ⟨H, G, E, cl⟩) (a_cons (e_call (fm := ⟨H, G, E, cl⟩) (a_cons (e_var (K := K) (i := 0) (R := (rL zI)) (x := p_script) rfl h_p_script) (a_one (e_add (e_add (e_var (K := K) (i := 1) (R := zI) (x := p_at) rfl rfl) e_int) (e_var (K := K) (i := 6) (R := zI) (x := p_k) rfl rfl))))) (a_one (EvN.evK (n_rep (EvN.evK (e_lst (l_cons e_int (l_cons e_int l_nil)) (by decide))) (e_ixL (e_KL (EvN.evK (e_lst (l_cons e_int (l_cons e_int (l_cons e_int l_nil))) (by decide)))) (e_ixL (e_KL (e_var (K := K) (i := 3) (R := (rK zI)) (x := p_head) rfl h_p_head)) e_int))))))) hs hm (fun p_parts vv7 G7 H7 e7 hs hv7 hm => ?_)
        obtain ⟨v_p_parts, rfl, h_p_parts⟩ := hv7
        have h_p_script := (((rL zI)).mono e7 h_p_script)
        have h_p_head := (((rK zI)).mono e7 h_p_head)
        have h_p_rows := RLs.mono e7 h_p_rows
        have b6 := Same.trans b6 e7
        refine (show (_ : TS) _ ([some v_p_script, some (.int p_at), some (.int p_most), some v_p_head, some (.int p_answers), some (.ref l_p_rows), some (.int p_k), some v_p_parts, none] : L2.St) _ from ?_)
        refine w_app (K := K) (i := 5) 0 (xs := p_rows) rfl rfl h_p_rows (e_tupleL (e_KL (EvN.evK (n_lc (S := (rP (rsC zI (rs1 zI)))) (i_rng1 (e_fdiv (e_len sq_K (e_var (K := K) (i := 7) (R := (rK zI)) (x := p_parts) rfl h_p_parts)) e_int)) (fun _ h => nomatch h) (tg_name (i := 8) (R := zI)) (by decide) (fun x8 vs8 G8 e8 hv8 => by
         obtain ⟨v8_p_i, rfl, h8_p_i⟩ := hv8
         exact ⟨t_yes, (e_tup (lnC ln1) (a_cons (e_mod (e_intI (e_ixL (e_KL (e_var (K := K) (i := 7) (R := (rK zI)) (x := p_parts) rfl (((rK zI)).mono e8 h_p_parts))) (e_mul e_int (e_var (K := K) (i := 8) (R := zI) (x := x8) rfl h8_p_i)))) (e_add e_int (e_ixL (e_KL (e_var (K := K) (i := 3) (R := (rK zI)) (x := p_head) rfl (((rK zI)).mono e8 h_p_head))) e_int))) (a_one (e_mod (e_intI (e_ixL (e_KL (e_var (K := K) (i := 7) (R := (rK zI)) (x := p_parts) rfl (((rK zI)).mono e8 h_p_parts))) (e_add (e_mul e_int (e_var (K := K) (i := 8) (R := zI) (x := x8) rfl h8_p_i)) e_int))) (e_var (K := K) (i := 4) (R := zI) (x := p_answers) rfl rfl)))) (by decide))⟩))))) hs hm (fun y9 w9 G9 H9 e9 hs h9 hm => ?_)
        have h_p_script := (((rL zI)).mono e9 h_p_script)
        have h_p_head := (((rK zI)).mono e9 h_p_head)
        have h_p_parts := (((rK zI)).mono e9 h_p_parts)
        have b6 := Same.trans b6 e9
        have h_p_rows := h9
        generalize p_rows ++ [y9] = p_rows at hm h_p_rows
        generalize vs_p_rows ++ [w9] = vs_p_rows at hs h_p_rows
        exact E6.nx p_rows _ _ _ _ _ b6 ⟨l_p_rows, vs_p_rows, some (.int p_k), some v_p_parts, rfl, rfl, h_p_rows⟩ (Same.refl _) hs hm.out
      · obtain ⟨l_p_rows, vs_p_rows, d_6, d_7, rfl, rfl, h_p_rows⟩ := w_
        have h_p_script := (((rL zI)).mono e6 h_p_script)
        have h_p_head := (((rK zI)).mono e6 h_p_head)
        have h_p_rows := RLs.mono e16 h_p_rows
        refine (show (_ : TS) _ ([some v_p_script, some (.int p_at), some (.int p_most), some v_p_head, some (.int p_answers), some (.ref l_p_rows), d_6, d_7, none] : L2.St) _ from ?_)
        try dsimp only at hm
        have ng10 := (hs.at 0 rfl).2.1
        have eg10 := same_new (o := HO.lst vs_p_rows) ng10
        have hs := hs.give 0 rfl
        have h_p_rows : (rK (rT (rP (rsC zI (rs1 zI))))).r K _ (.ref l_p_rows) p_rows := ⟨l_p_rows, vs_p_rows, rfl, upd_same, RLs.mono eg10 h_p_rows⟩
        have h_p_script := (((rL zI)).mono eg10 h_p_script)
        have h_p_head := (((rK zI)).mono eg10 h_p_head)
        exact w_ret0 (K := K) (e_tup (lnC (lnC ln1)) (a_cons (e_ixL (e_KL (e_var (K := K) (i := 3) (R := (rK zI)) (x := p_head) rfl h_p_head)) e_int) (a_cons (e_add e_int (e_ixL (e_KL (e_var (K := K) (i := 3) (R := (rK zI)) (x := p_head) rfl h_p_head)) e_int)) (a_one (e_tupleL (e_KL (e_var (K := K) (i := 5) (R := (rK (rT (rP (rsC zI (rs1 zI)))))) (x := p_rows) rfl h_p_rows)))))) (by decide)) hs hm fun r v G2 H2 hs2 hr2 hq => hq v G2 H2 hs2.fin hr2
    · have h_p_script := (((rL zI)).mono e3 h_p_script)
      have h_p_head := (((rK zI)).mono e3 h_p_head)
      have b3 := Same.refl G3
      refine w_asg (K := K) (tg_name (i := 4) (R := zI)) (e_ixL (e_KL (EvN.evK (e_lst (l_cons e_int (l_cons e_int (l_cons e_int (l_cons e_int (l_cons e_int (l_cons e_int l_nil)))))) (by decide)))) (e_ixL (e_KL (e_var (K := K) (i := 3) (R := (rK zI)) (x := p_head) rfl h_p_head)) e_int)) hs hm (fun p_answers vv12 G12 H12 e12 hs hv12 hm => ?_)
      obtain ⟨v_p_answers, rfl, h_p_answers⟩ := hv12
      cases (show v_p_answers = V.int p_answers from h_p_answers)
      have h_p_script := (((rL zI)).mono e12 h_p_script)
      have h_p_head := (((rK zI)).mono e12 h_p_head)
      have b3 := Same.trans b3 e12
      refine (show (_ : TS) _ ([some v_p_script, some (.int p_at), some (.int p_most), some v_p_head, some (.int p_answers), none, none, none, none] : L2.St) _ from ?_)
      exact J3.nx p_answers _ _ _ _ _ b3 ⟨rfl, rfl⟩ (Same.refl _) hs hm
    · have h_p_script := (((rL zI)).mono e3 h_p_script)
      have h_p_head := (((rK zI)).mono e3 h_p_head)
      have b3 := Same.refl G3
      exact J3.nx p_answers _ _ _ _ _ b3 ⟨rfl, rfl⟩ (Same.refl _) hs hm

theorem ok_law_same_table {P : Program} {w : World} {K : PySem.W.Frag} {mg : Str → Option Value} {base : Heap} {cl : Nat → Addr} {fa : Addr} {fd : FuncData} (F : Fun K "_law_same_table" "_law_same_table" s_law_same_table fa fd) (T : Txt K mg cl) (C_law_is_integer : Cal P w K mg base "_law_is_integer" 1 ["actual"] (spP K cl (rs1 (rO zI)) rB (fun a => m_law_is_integer a))) :
    FnOk P w K mg base (L2.CX P w) 2 fa fd ["actual", "expected"] (spP K cl (rsC (rP (rsC zI (rsC zI (rs1 (rT (rT (rP (rsC zI (rs1 zI))))))))) (rs1 (rP (rsC zI (rsC zI (rs1 (rT (rT (rP (rsC zI (rs1 zI))))))))))) rB (fun a => m_law_same_table (a.1) (a.2))) := by
  refine F.okX sc_law_same_table (fun vs H Q E h => ?_) (fun cdv A outer s H vs Q E hr h => ?_)
  · obtain ⟨G, a, _, hS, _⟩ := h
    exact (lnC ln1) _ _ _ _ hS
  · obtain ⟨G, ⟨p_actual, p_expected⟩, hg, hS, hm⟩ := h
    obtain ⟨v_p_actual, _, rfl, h_p_actual, v_p_expected, rfl, h_p_expected⟩ := hS
    have tk : Takes (cxOf (L2.CX P w) P w K mg base N_law_same_table "_law_same_table" (defScope s_law_same_table) fa cdv A outer s H E) (fun cls d _ H => E cls d H) := takes_of rfl rfl rfl rfl
    refine ⟨_, (pss_cons (ps_if (PW.pt (pw_or (pt_not (pt_val (pe_callB (r := rIsi K) call_isi (by rfl) T.n_isinstance b_isinstance (pa_cons (pv 0) (pa_cons (pe_bltn (v := .ty "tuple") (by rfl) T.n_tuple b_tuple rfl) pa_nil))))) (pw_or (pt_cmpR op_ne (pe_callB (r := Mw.rLen K) call_len (by rfl) T.n_len b_len (pa_cons (pv 0) pa_nil)) pe_int (nomark _)) (pw_or1 (pt_not (pt_val (pe_callB (r := rIsi K) call_isi (by rfl) T.n_isinstance b_isinstance (pa_cons (pe_ix (r := rIxT K) ix_tup (pv 0) pe_int (fun _ _ => rfl)) (pa_cons (pe_bltn (v := .ty "tuple") (by rfl) T.n_tuple b_tuple rfl) pa_nil))))))))) (pss_cons (ps_ret pe_bl)
     pss_nil) pss_nil)
     (pss_cons (ps_if (PW.pt (pw_or (pt_not (pt_val (pe_call (E := E) C_law_is_integer.ok (hr.mono (by decide)) rfl C_law_is_integer.mgx C_law_is_integer.kp C_law_is_integer.bd .nil (passes_call tk (fun _ _ _ _ h => h)) (pa_cons (pe_ix (r := rIxT K) ix_tup (pv 0) pe_int (fun _ _ => rfl)) pa_nil)))) (pw_or1 (pt_not (pt_val (pe_call (E := E) C_law_is_integer.ok (hr.mono (by decide)) rfl C_law_is_integer.mgx C_law_is_integer.kp C_law_is_integer.bd .nil (passes_call tk (fun _ _ _ _ h => h)) (pa_cons (pe_ix (r := rIxT K) ix_tup (pv 0) pe_int (fun _ _ => rfl)) pa_nil))))))) (pss_cons (ps_ret pe_bl)
     pss_nil) pss_nil)
     (pss_cons (ps_for (passes_of rfl) rfl (pi_tup (pe_ix (r := rIxT K) ix_tup (pv 0) pe_int (fun _ _ => rfl))) (pg_name (i := 2) sc_law_same_table.nd rfl (by first | exact Or.inl rfl | exact Or.inr rfl)) (pss_cons (ps_if (pt_not (pt_val (pe_callB (r := rIsi K) call_isi (by rfl) T.n_isinstance b_isinstance (pa_cons (pv 2) (pa_cons (pe_bltn (v := .ty "tuple") (by rfl) T.n_tuple b_tuple rfl) pa_nil))))) (pss_cons (ps_ret pe_bl)
     pss_nil) pss_nil)
     (pss_cons (ps_for (passes_of rfl) rfl (pi_tup (pv 2)) (pg_name (i := 3) sc_law_same_table.nd rfl (by first | exact Or.inl rfl | exact Or.inr rfl)) (pss_cons (ps_if (PW.pt (pw_or (pt_not (pt_val (pe_callB (r := rIsi K) call_isi (by rfl) T.n_isinstance b_isinstance (pa_cons (pv 3) (pa_cons (pe_bltn (v := .ty "tuple") (by rfl) T.n_tuple b_tuple rfl) pa_nil))))) (pw_or1 (pt_cmpR op_ne (pe_callB (r := Mw.rLen K) call_len (by rfl) T.n_len b_len (pa_cons (pv 3) pa_nil)) pe_int (nomark _))))) (pss_cons (ps_ret pe_bl)
     pss_nil) pss_nil)
     (pss_cons (ps_if (PW.pt (pw_or (pt_not (pt_val (pe_call (E := E) C_law_is_integer.ok (hr.mono (by decide)) rfl C_law_is_integer.mgx C_law_is_integer.kp C_law_is_integer.bd .nil (passes_call tk (fun _ _ _ _ h => h)) (pa_cons (pe_ix (r := rIxT K) ix_tup (pv 3) pe_int (fun _ _ => rfl)) pa_nil)))) (pw_or1 (pt_not (pt_val (pe_call (E := E) C_law_is_integer.ok (hr.mono (by decide)) rfl C_law_is_integer.mgx C_law_is_integer.kp C_law_is_integer.bd .nil (passes_call tk (fun _ _ _ _ h => h)) (pa_cons (pe_ix (r := rIxT K) ix_tup (pv 3) pe_int (fun _ _ => rfl)) pa_nil))))))) (pss_cons (ps_ret pe_bl)
     pss_nil) pss_nil)
     pss_nil)))
     pss_nil)))
     (pss_cons (ps_ret (pe_cmpR (r := rEqD K) (op_eqD hr.units) (pv 0) (pv 1) (nomark _)))
     pss_nil)))), ?_⟩
    have hs : Hs ⟨H, G, E, cl⟩ G [] H := Hs.start hg
    have hm := Wp.ofSp (G0 := G) hm
    try dsimp only at hm
    unfold m_law_same_table at hm
    refine (show (_ : TS) _ ([some v_p_actual, some v_p_expected, none, none] : L2.St) _ from ?_)
    refine w_if (t_or (t_not (t_val (K := K) (e_isi (g := fun _ => true) ty_P (fun _ => by decide +kernel) (e_var (K := K) (i := 0) (R := (rP (rsC zI (rsC zI (rs1 (rT (rT (rP (rsC zI (rs1 zI)))))))))) (x := p_actual) rfl h_p_actual)))) (t_or (t_test (K := K) (e_ne srI (e_lenP (lnC (lnC ln1)) (e_var (K := K) (i := 0) (R := (rP (rsC zI (rsC zI (rs1 (rT (rT (rP (rsC zI (rs1 zI)))))))))) (x := p_actual) rfl h_p_actual)) e_int)) (t_not (t_val (K := K) (e_isi (g := fun _ => true) ty_T (fun _ => by decide +kernel) (e_proj (k := 2) (pjS (pjS pj1)) (e_var (K := K) (i := 0) (R := (rP (rsC zI (rsC zI (rs1 (rT (rT (rP (rsC zI (rs1 zI)))))))))) (x := p_actual) rfl h_p_actual))))))) hs hm (fun G1 H1 e1 hs hm => ?_) (fun G1 H1 e1 hs hm => ?_)
    · have h_p_actual := (((rP (rsC zI (rsC zI (rs1 (rT (rT (rP (rsC zI (rs1 zI)))))))))).mono e1 h_p_actual)
      have h_p_expected := (((rP (rsC zI (rsC zI (rs1 (rT (rT (rP (rsC zI (rs1 zI)))))))))).mono e1 h_p_expected)
      exact w_ret0 (K := K) e_bl hs hm fun r v G2 H2 hs2 hr2 hq => hq v G2 H2 hs2.fin hr2
    · have h_p_actual := (((rP (rsC zI (rsC zI (rs1 (rT (rT (rP (rsC zI (rs1 zI)))))))))).mono e1 h_p_actual)
      have h_p_expected := (((rP (rsC zI (rsC zI (rs1 (rT (rT (rP (rsC zI (rs1 zI)))))))))).mono e1 h_p_expected)
      refine nx_of ?_
      try dsimp only
      refine (show (_ : TS) _ ([some v_p_actual, some v_p_expected, none, none] : L2.St) _ from ?_)
      refine w_if (t_or (t_not (t_val (K := K) (e_call (fm := ⟨H, G, E, cl⟩) (a_one (e_some nn_I (e_proj (k := 0) pj0 (e_var (K := K) (i := 0) (R := (rP (rsC zI (rsC zI (rs1 (rT (rT (rP (rsC zI (rs1 zI)))))))))) (x := p_actual) rfl h_p_actual))))))) (t_not (t_val (K := K) (e_call (fm := ⟨H, G, E, cl⟩) (a_one (e_some nn_I (e_proj (k := 1) (pjS pj0) (e_var (K := K) (i := 0) (R := (rP (rsC zI (rsC zI (rs1 (rT (rT (rP (rsC zI (rs1 zI)))))))))) (x := p_actual) rfl h_p_actual)))))))) hs hm (fun G2 H2 e2 hs hm => ?_) (fun G2 H2 e2 hs hm => ?_)
      · have h_p_actual := (((rP (rsC zI (rsC zI (rs1 (rT (rT (rP (rsC zI (rs1 zI)))))))))).mono e2 h_p_actual)
        have h_p_expected := (((rP (rsC zI (rsC zI (rs1 (rT (rT (rP (rsC zI (rs1 zI)))))))))).mono e2 h_p_expected)
        exact w_ret0 (K := K) e_bl hs hm fun r v G2 H2 hs2 hr2 hq => hq v G2 H2 hs2.fin hr2
      · have h_p_actual := (((rP (rsC zI (rsC zI (rs1 (rT (rT (rP (rsC zI (rs1 zI)))))))))).mono e2 h_p_actual)
        have h_p_expected := (((rP (rsC zI (rsC zI (rs1 (rT (rT (rP (rsC zI (rs1 zI)))))))))).mono e2 h_p_expected)
        refine nx_of ?_
        try dsimp only
        refine (show (_ : TS) _ ([some v_p_actual, some v_p_expected, none, none] : L2.St) _ from ?_)
        refine w_forB (K := K) (Rr := rB) (fun (_ : Unit) (σ : L2.St) (G : Hp) (O : Own) => ∃ (d_2 : Option V) (d_3 : Option V), σ = [some v_p_actual, some v_p_expected, d_2, d_3] ∧ O = []) (i_tup (e_proj (k := 2) (pjS (pjS pj1)) (e_var (K := K) (i := 0) (R := (rP (rsC zI (rsC zI (rs1 (rT (rT (rP (rsC zI (rs1 zI)))))))))) (x := p_actual) rfl h_p_actual))) (fun _ _ _ _ _ _ h => nomatch h) (tg_name (i := 2) (R := (rT (rP (rsC zI (rs1 zI)))))) hs hm ⟨none, none, rfl, rfl⟩ (fun r v G2 O2 H2 hs2 hr2 hq => hq v G2 H2 hs2.fin hr2) (fun p_row s_ σ_ G1_3 G3 O_ H3 vv3 D3 Qb3 e3 w_ e13 hs hv3 E3 hm => ?_) (fun s_ σ_ G1_3 G3 O_ H3 e3 w_ e13 hs hm => ?_)
        · obtain ⟨d_2, d_3, rfl, rfl⟩ := w_
          have h_p_actual := (((rP (rsC zI (rsC zI (rs1 (rT (rT (rP (rsC zI (rs1 zI)))))))))).mono e3 h_p_actual)
          have h_p_expected := (((rP (rsC zI (rsC zI (rs1 (rT (rT (rP (rsC zI (rs1 zI)))))))))).mono e3 h_p_expected)
          obtain ⟨v_p_row, rfl, h_p_row⟩ := hv3
          have b3 := Same.refl G3
          refine (show (_ : TS) _ ([some v_p_actual, some v_p_expected, some v_p_row, d_3] : L2.St) _ from ?_)
          unfold m_law_same_table_b9 at hm
          try dsimp only at hm
          refine w_if (t_not (t_val (K := K) (e_isi (g := fun _ => true) ty_T (fun _ => by decide +kernel) (e_var (K := K) (i := 2) (R := (rT (rP (rsC zI (rs1 zI))))) (x := p_row) rfl h_p_row)))) hs hm (fun G4 H4 e4 hs hm => ?_) (fun G4 H4 e4 hs hm => ?_)
          · have h_p_actual := (((rP (rsC zI (rsC zI (rs1 (rT (rT (rP (rsC zI (rs1 zI)))))))))).mono e4 h_p_actual)
            have h_p_expected := (((rP (rsC zI (rsC zI (rs1 (rT (rT (rP (rsC zI (rs1 zI)))))))))).mono e4 h_p_expected)
            have h_p_row := (((rT (rP (rsC zI (rs1 zI))))).mono e4 h_p_row)
            have b3 := Same.trans b3 e4
            exact w_ret (K := K) (kr := Tn.rt) e_bl hs hm fun r v G2 H2 hs2 hr2 hq => E3.rt r v _ _ _ hs2 hr2 hq
          · have h_p_actual := (((rP (rsC zI (rsC zI (rs1 (rT (rT (rP (rsC zI (rs1 zI)))))))))).mono e4 h_p_actual)
            have h_p_expected := (((rP (rsC zI (rsC zI (rs1 (rT (rT (rP (rsC zI (rs1 zI)))))))))).mono e4 h_p_expected)
            have h_p_row := (((rT (rP (rsC zI (rs1 zI))))).mono e4 h_p_row)
            have b3 := Same.trans b3 e4
            refine nx_of ?_
            try dsimp only
            refine (show (_ : TS) _ ([some v_p_actual, some v_p_expected, some v_p_row, d_3] : L2.St) _ from ?_)
            refine w_forB (K := K) (Rr := rB) (fun (_ : Unit) (σ : L2.St) (G : Hp) (O : Own) => ∃ (d_3 : Option V), σ = [some v_p_actual, some v_p_expected, some v_p_row, d_3] ∧ O = []) (i_tup (e_var (K := K) (i := 2) (R := (rT (rP (rsC zI (rs1 zI))))) (x := p_row) rfl h_p_row)) (fun _ _ _ _ _ _ h => nomatch h) (tg_name (i := 3) (R := (rP (rsC zI (rs1 zI))))) hs hm ⟨d_3, rfl, rfl⟩ (fun r v G2 O2 H2 hs2 hr2 hq => E3.rt r v _ _ _ hs2 hr2 hq) (fun p_pair s_ σ_ G1_5 G5 O_ H5 vv5 D5 Qb5 e5 w_ e15 hs hv5 E5 hm => ?_) (fun s_ σ_ G1_5 G5 O_ H5 e5 w_ e15 hs hm => ?_)
            · obtain ⟨d_3, rfl, rfl⟩ := w_
              have h_p_actual := (((rP (rsC zI (rsC zI (rs1 (rT (rT (rP (rsC zI (rs1 zI)))))))))).mono e5 h_p_actual)
              have h_p_expected := (((rP (rsC zI (rsC zI (rs1 (rT (rT (rP (rsC zI (rs1 zI)))))))))).mono e5 h_p_expected)
              have h_p_row := (((rT (rP (rsC zI (rs1 zI))))).mono e5 h_p_row)
              obtain ⟨v_p_pair, rfl, h_p_pair⟩ := hv5
              have b5 := Same.refl G5
              refine (show (_ : TS) _ ([some v_p_actual, some v_p_expected, some v_p_row, some v_p_pair] : L2.St) _ from ?_)
              unfold m_law_same_table_b8 at hm
              try dsimp only at hm
              refine w_if (t_or (t_not (t_val (K := K) (e_isi (g := fun _ => true) ty_P (fun _ => by decide +kernel) (e_var (K := K) (i := 3) (R := (rP (rsC zI (rs1 zI)))) (x := p_pair) rfl h_p_pair)))) (t_test (K := K) (e_ne srI (e_lenP (lnC ln1) (e_var (K := K) (i := 3) (R := (rP (rsC zI (rs1 zI)))) (x := p_pair) rfl h_p_pair)) e_int))) hs hm (fun G6 H6 e6 hs hm => ?_) (fun G6 H6 e6 hs hm => ?_)
              · have h_p_actual := (((rP (rsC zI (rsC zI (rs1 (rT (rT (rP (rsC zI (rs1 zI)))))))))).mono e6 h_p_actual)
                have h_p_expected := (((rP (rsC zI (rsC zI (rs1 (rT (rT (rP (rsC zI (rs1 zI)))))))))).mono e6 h_p_expected)
                have h_p_row := (((rT (rP (rsC zI (rs1 zI))))).mono e6 h_p_row)
                have h_p_pair := (((rP (rsC zI (rs1 zI)))).mono e6 h_p_pair)
                have b5 := Same.trans b5 e6
                exact w_ret (K := K) (kr := Tn.rt) e_bl hs hm fun r v G2 H2 hs2 hr2 hq => E5.rt r v _ _ _ hs2 hr2 hq
              · have h_p_actual := (((rP (rsC zI (rsC zI (rs1 (rT (rT (rP (rsC zI (rs1 zI)))))))))).mono e6 h_p_actual)
                have h_p_expected := (((rP (rsC zI (rsC zI (rs1 (rT (rT (rP (rsC zI (rs1 zI)))))))))).mono e6 h_p_expected)
                have h_p_row := (((rT (rP (rsC zI (rs1 zI))))).mono e6 h_p_row)
                have h_p_pair := (((rP (rsC zI (rs1 zI)))).mono e6 h_p_pair)
                have b5 := Same.trans b5 e6
                refine nx_of ?_
                try dsimp only
                refine (show (_ : TS) _ ([some v_p_actual, some v_p_expected, some v_p_row, some v_p_pair] : L2.St) _ from ?_)
                refine w_if (t_or (t_not (t_val (K := K) (e_call (fm := ⟨H, G, E, cl⟩) (a_one (e_some nn_I (e_proj (k := 0) pj0 (e_var (K := K) (i := 3) (R := (rP (rsC zI (rs1 zI)))) (x := p_pair) rfl h_p_pair))))))) (t_not (t_val (K := K) (e_call (fm := ⟨H, G, E, cl⟩) (a_one (e_some nn_I (e_proj (k := 1) (pjS pj1) (e_var (K := K) (i := 3) (R := (rP (rsC zI (rs1 zI)))) (x := p_pair) rfl h_p_pair)))))))) hs hm (fun G7 H7 e7 hs hm => ?_) (fun G7 H7 e7 hs hm => ?_)
                · have h_p_actual := (((rP (rsC zI (rsC zI (rs1 (rT (rT (rP (rsC zI (rs1 zI)))))))))).mono e7 h_p_actual)
                  have h_p_expected := (((rP (rsC zI (rsC zI (rs1 (rT (rT (rP (rsC zI (rs1 zI)))))))))).mono e7 h_p_expected)
                  have h_p_row := (((rT (rP (rsC zI (rs1 zI))))).mono e7 h_p_row)
                  have h_p_pair := (((rP (rsC zI (rs1 zI)))).mono e7 h_p_pair)
                  have b5 := Same.trans b5 e7
                  exact w_ret (K := K) (kr := Tn.rt) e_bl hs hm fun r v G2 H2 hs2 hr2 hq => E5.rt r v _ _ _ hs2 hr2 hq
                · have h_p_actual := (((rP (rsC zI (rsC zI (rs1 (rT (rT (rP (rsC zI (rs1 zI)))))))))).mono e7 h_p_actual)
                  have h_p_expected := (((rP (rsC zI (rsC zI (rs1 (rT (rT (rP (rsC zI (rs1 zI)))))))))).mono e7 h_p_expected)
                  have h_p_row := (((rT (rP (rsC zI (rs1 zI))))).mono e7 h_p_row)
                  have h_p_pair := (((rP (rsC zI (rs1 zI)))).mono e7 h_p_pair)
                  have b5 := Same.trans b5 e7
                  refine nx_of ?_
                  try dsimp only
                  refine (show (_ : TS) _ ([some v_p_actual, some v_p_expected, some v_p_row, some v_p_pair] : L2.St) _ from ?_)
                  exact E5.nx () _ _ _ _ _ b5 ⟨some v_p_pair, rfl, rfl⟩ (Same.refl _) hs hm.out
            · obtain ⟨d_3, rfl, rfl⟩ := w_
              have h_p_actual := (((rP (rsC zI (rsC zI (rs1 (rT (rT (rP (rsC zI (rs1 zI)))))))))).mono e5 h_p_actual)
              have h_p_expected := (((rP (rsC zI (rsC zI (rs1 (rT (rT (rP (rsC zI (rs1 zI)))))))))).mono e5 h_p_expected)
              have h_p_row := (((rT (rP (rsC zI (rs1 zI))))).mono e5 h_p_row)
              have b3 := Same.trans b3 e5
              refine (show (_ : TS) _ ([some v_p_actual, some v_p_expected, some v_p_row, d_3] : L2.St) _ from ?_)
              try dsimp only at hm
              exact E3.nx () _ _ _ _ _ b3 ⟨some v_p_row, d_3, rfl, rfl⟩ (Same.refl _) hs hm.out
        · obtain ⟨d_2, d_3, rfl, rfl⟩ := w_
          have h_p_actual := (((rP (rsC zI (rsC zI (rs1 (rT (rT (rP (rsC zI (rs1 zI)))))))))).mono e3 h_p_actual)
          have h_p_expected := (((rP (rsC zI (rsC zI (rs1 (rT (rT (rP (rsC zI (rs1 zI)))))))))).mono e3 h_p_expected)
          refine (show (_ : TS) _ ([some v_p_actual, some v_p_expected, d_2, d_3] : L2.St) _ from ?_)
          try dsimp only at hm
          exact w_ret0 (K := K) (e_eqD (qP (qsC qI (qsC qI (qs1 (qT (qT (qP (qsC qI (qs1 qI))))))))) (by decide) (e_var (K := K) (i := 0) (R := (rP (rsC zI (rsC zI (rs1 (rT (rT (rP (rsC zI (rs1 zI)))))))))) (x := p_actual) rfl h_p_actual) (e_var (K := K) (i := 1) (R := (rP (rsC zI (rsC zI (rs1 (rT (rT (rP (rsC zI (rs1 zI)))))))))) (x := p_expected) rfl h_p_expected)) hs hm fun r v G2 H2 hs2 hr2 hq => hq v G2 H2 hs2.fin hr2

theorem ok_law_text {P : Program} {w : World} {K : PySem.W.Frag} {mg : Str → Option Value} {base : Heap} {cl : Nat → Addr} {fa : Addr} {fd : FuncData} (F : Fun K "_law_text" "_law_text" s_law_text fa fd) (T : Txt K mg cl)  :
    FnOk P w K mg base (L2.CX P w) 1 fa fd ["table"] (spP K cl (rs1 (rP (rsC zI (rsC zI (rs1 (rT (rT (rP (rsC zI (rs1 zI)))))))))) rS (fun a => m_law_text a)) := by
  refine F.okX sc_law_text (fun vs H Q E h => ?_) (fun cdv A outer s H vs Q E hr h => ?_)
  · obtain ⟨G, a, _, hS, _⟩ := h
    exact ln1 _ _ _ _ hS
  · obtain ⟨G, p_table, hg, hS, hm⟩ := h
    obtain ⟨v_p_table, rfl, h_p_table⟩ := hS
    refine ⟨_, (pss_cons (ps_set (i := 1) sc_law_text.nd rfl (by first | exact Or.inl rfl | exact Or.inr rfl) (pe_op (r := rAddS) op_add_str (pe_join pe_str (pe_lc (own := [("number", 3)]) rfl sc_law_text.nd (pi_list (pe_lst (pa_cons (pe_ix (r := rIxT K) ix_tup (pv 0) pe_int (fun _ _ => rfl)) (pa_cons (pe_ix (r := rIxT K) ix_tup (pv 0) pe_int (fun _ _ => rfl)) (pa_cons (pe_callB (r := Mw.rLen K) call_len (by rfl) T.n_len b_len (pa_cons (pe_ix (r := rIxT K) ix_tup (pv 0) pe_int (fun _ _ => rfl)) pa_nil)) pa_nil))))) (blkOk_by (own := [("number", 3)]) (N := N_law_text) (sc := defScope s_law_text) (by decide +kernel)) (fun _ _ _ _ _ => (pg_name (i := 3) sc_law_text.nd rfl (by first | exact Or.inl rfl | exact Or.inr rfl))) (fun _ _ _ _ _ => pts_nil) (fun _ _ _ _ _ => (pe_callTy (r := rStrI) call_str_int (by rfl) T.n_str b_str (pa_cons (pv 3) pa_nil))))) pe_str))
     (pss_cons (ps_for (passes_of rfl) rfl (pi_tup (pe_ix (r := rIxT K) ix_tup (pv 0) pe_int (fun _ _ => rfl))) (pg_name (i := 2) sc_law_text.nd rfl (by first | exact Or.inl rfl | exact Or.inr rfl)) (pss_cons (ps_set (i := 1) sc_law_text.nd rfl (by first | exact Or.inl rfl | exact Or.inr rfl) (pe_op (r := rAddS) op_add_str (pe_op (r := rAddS) op_add_str (pv 1) (pe_join pe_str (pe_lc (own := [("pair", 4)]) rfl sc_law_text.nd (pi_tup (pv 2)) (blkOk_by (own := [("pair", 4)]) (N := N_law_text) (sc := defScope s_law_text) (by decide +kernel)) (fun _ _ _ _ _ => (pg_name (i := 4) sc_law_text.nd rfl (by first | exact Or.inl rfl | exact Or.inr rfl))) (fun _ _ _ _ _ => pts_nil) (fun _ _ _ _ _ => (pe_op (r := rAddS) op_add_str (pe_op (r := rAddS) op_add_str (pe_callTy (r := rStrI) call_str_int (by rfl) T.n_str b_str (pa_cons (pe_ix (r := rIxT K) ix_tup (pv 4) pe_int (fun _ _ => rfl)) pa_nil)) pe_str) (pe_callTy (r := rStrI) call_str_int (by rfl) T.n_str b_str (pa_cons (pe_ix (r := rIxT K) ix_tup (pv 4) pe_int (fun _ _ => rfl)) pa_nil))))))) pe_str))
     pss_nil))
     (pss_cons (ps_ret (pv 1))
     pss_nil))), ?_⟩
    have hs : Hs ⟨H, G, E, cl⟩ G [] H := Hs.start hg
    have hm := Wp.ofSp (G0 := G) hm
    try dsimp only at hm
    unfold m_law_text at hm
    refine (show (_ : TS) _ ([some v_p_table, none, none, none, none] : L2.St) _ from ?_)
    refine w_asg (K := K) (tg_name (i := 1) (R := rS)) (e_addS (e_jn e_str (e_KL (EvN.evK (n_lc (S := rS) (i_list (e_KL (EvN.evK (e_lst (l_cons (e_proj (k := 0) pj0 (e_var (K := K) (i := 0) (R := (rP (rsC zI (rsC zI (rs1 (rT (rT (rP (rsC zI (rs1 zI)))))))))) (x := p_table) rfl h_p_table)) (l_cons (e_proj (k := 1) (pjS pj0) (e_var (K := K) (i := 0) (R := (rP (rsC zI (rsC zI (rs1 (rT (rT (rP (rsC zI (rs1 zI)))))))))) (x := p_table) rfl h_p_table)) (l_cons (e_len sq_T (e_proj (k := 2) (pjS (pjS pj1)) (e_var (K := K) (i := 0) (R := (rP (rsC zI (rsC zI (rs1 (rT (rT (rP (rsC zI (rs1 zI)))))))))) (x := p_table) rfl h_p_table))) l_nil))) (by decide))))) (fun _ h => nomatch h) (tg_name (i := 3) (R := zI)) (by decide) (fun x1 vs1 G1 e1 hv1 => by
     obtain ⟨v1_p_number, rfl, h1_p_number⟩ := hv1
     exact ⟨t_yes, (e_strI (e_var (K := K) (i := 3) (R := zI) (x := x1) rfl h1_p_number))⟩))))) e_str) hs hm (fun p_text vv2 G2 H2 e2 hs hv2 hm => ?_)
    obtain ⟨v_p_text, rfl, h_p_text⟩ := hv2
    cases (show v_p_text = V.str p_text from h_p_text)
    have h_p_table := (((rP (rsC zI (rsC zI (rs1 (rT (rT (rP (rsC zI (rs1 zI)))))))))).mono e2 h_p_table)
    refine (show (_ : TS) _ ([some v_p_table, some (.str p_text), none, none, none] : L2.St) _ from ?_)
    refine w_forM (K := K) (fun (p_text : Str) (σ : L2.St) (G : Hp) (O : Own) => ∃ (d_2 : Option V), σ = [some v_p_table, some (.str p_text), d_2, none, none] ∧ O = []) (i_tup (e_proj (k := 2) (pjS (pjS pj1)) (e_var (K := K) (i := 0) (R := (rP (rsC zI (rsC zI (rs1 (rT (rT (rP (rsC zI (rs1 zI)))))))))) (x := p_table) rfl h_p_table))) (fun _ _ _ _ _ _ h => nomatch h) (tg_name (i := 2) (R := (rT (rP (rsC zI (rs1 zI)))))) hs hm ⟨none, rfl, rfl⟩ (fun p_row p_text σ_ G1_3 G3 O_ H3 vv3 D3 Qb3 e3 w_ e13 hs hv3 E3 hm => ?_) (fun p_text σ_ G1_3 G3 O_ H3 e3 w_ e13 hs hm => ?_)
    · obtain ⟨d_2, rfl, rfl⟩ := w_
      have h_p_table := (((rP (rsC zI (rsC zI (rs1 (rT (rT (rP (rsC zI (rs1 zI)))))))))).mono e3 h_p_table)
      obtain ⟨v_p_row, rfl, h_p_row⟩ := hv3
      have b3 := Same.refl G3
      refine (show (_ : TS) _ ([some v_p_table, some (.str p_text), some v_p_row, none, none] : L2.St) _ from ?_)
      unfold m_law_text_b6 at hm
      try dsimp only at hm
      refine w_asg (K := K) (tg_name (i := 1) (R := rS)) (e_addS (e_addS (e_var (K := K) (i := 1) (R := rS) (x := p_text) rfl rfl) (e_jn e_str (e_KL (EvN.evK (n_lc (S := rS) (i_tup (e_var (K := K) (i := 2) (R := (rT (rP (rsC zI (rs1 zI))))) (x := p_row) rfl h_p_row)) (fun _ h => nomatch h) (tg_name (i := 4) (R := (rP (rsC zI (rs1 zI))))) (by decide) (fun x4 vs4 G4 e4 hv4 => by
       obtain ⟨v4_p_pair, rfl, h4_p_pair⟩ := hv4
       exact ⟨t_yes, (e_addS (e_addS (e_strI (e_proj (k := 0) pj0 (e_var (K := K) (i := 4) (R := (rP (rsC zI (rs1 zI)))) (x := x4) rfl h4_p_pair))) e_str) (e_strI (e_proj (k := 1) (pjS pj1) (e_var (K := K) (i := 4) (R := (rP (rsC zI (rs1 zI)))) (x := x4) rfl h4_p_pair))))⟩)))))) e_str) hs hm (fun p_text vv5 G5 H5 e5 hs hv5 hm => ?_)
      obtain ⟨v_p_text, rfl, h_p_text⟩ := hv5
      cases (show v_p_text = V.str p_text from h_p_text)
      have h_p_table := (((rP (rsC zI (rsC zI (rs1 (rT (rT (rP (rsC zI (rs1 zI)))))))))).mono e5 h_p_table)
      have h_p_row := (((rT (rP (rsC zI (rs1 zI))))).mono e5 h_p_row)
      have b3 := Same.trans b3 e5
      refine (show (_ : TS) _ ([some v_p_table, some (.str p_text), some v_p_row, none, none] : L2.St) _ from ?_)
      exact E3.nx p_text _ _ _ _ _ b3 ⟨some v_p_row, rfl, rfl⟩ (Same.refl _) hs hm.out
    · obtain ⟨d_2, rfl, rfl⟩ := w_
      have h_p_table := (((rP (rsC zI (rsC zI (rs1 (rT (rT (rP (rsC zI (rs1 zI)))))))))).mono e3 h_p_table)
      refine (show (_ : TS) _ ([some v_p_table, some (.str p_text), d_2, none, none] : L2.St) _ from ?_)
      try dsimp only at hm
      exact w_ret0 (K := K) (e_var (K := K) (i := 1) (R := rS) (x := p_text) rfl rfl) hs hm fun r v G2 H2 hs2 hr2 hq => hq v G2 H2 hs2.fin hr2

theorem ok_law_numbers {P : Program} {w : World} {K : PySem.W.Frag} {mg : Str → Option Value} {base : Heap} {cl : Nat → Addr} {fa : Addr} {fd : FuncData} (F : Fun K "_law_numbers" "_law_numbers" s_law_numbers fa fd) (T : Txt K mg cl)  :
    FnOk P w K mg base (L2.CX P w) 1 fa fd ["line"] (spP K cl (rs1 rS) (rO (rK zI)) (fun a => m_law_numbers a)) := by
  refine F.okX sc_law_numbers (fun vs H Q E h => ?_) (fun cdv A outer s H vs Q E hr h => ?_)
  · obtain ⟨G, a, _, hS, _⟩ := h
    exact ln1 _ _ _ _ hS
  · obtain ⟨G, p_line, hg, hS, hm⟩ := h
    obtain ⟨v_p_line, rfl, h_p_line⟩ := hS
    cases (show v_p_line = V.str p_line from h_p_line)
    refine ⟨_, (pss_cons (ps_set (i := 1) sc_law_numbers.nd rfl (by first | exact Or.inl rfl | exact Or.inr rfl) (pe_lst pa_nil))
     (pss_cons (ps_for (passes_of rfl) rfl (pi_list (pe_split (pv 0) pe_str)) (pg_name (i := 2) sc_law_numbers.nd rfl (by first | exact Or.inl rfl | exact Or.inr rfl)) (pss_cons (ps_if (PW.pt (pw_or (pt_cmpR op_eq (pv 2) pe_str (nomark _)) (pw_or1 (PW.pt (pw_and (pt_cmpR op_gt (pe_callB (r := Mw.rLen K) call_len (by rfl) T.n_len b_len (pa_cons (pv 2) pa_nil)) pe_int (nomark _)) (pw_and1 (pt_cmpR op_eq (pe_ix (r := rIxS) ix_str (pv 2) pe_int (fun _ _ => rfl)) pe_str (nomark _)))))))) (pss_cons (ps_ret pe_non)
     pss_nil) pss_nil)
     (pss_cons (ps_for (passes_of rfl) rfl (pi_str (pv 2)) (pg_name (i := 3) sc_law_numbers.nd rfl (by first | exact Or.inl rfl | exact Or.inr rfl)) (pss_cons (ps_if (pt_cmpR (r := rNinS) op_notin_str (pv 3) pe_str (by rfl)) (pss_cons (ps_ret pe_non)
     pss_nil) pss_nil)
     pss_nil))
     (pss_cons (ps_expr (pe_bm PySem.F.plainAttrs_list PySem.F.slot_list_append PySem.F.type_list_append mt_append (pv 1) (pa_cons (pe_callTy (r := rIntS) call_int_str (by rfl) T.n_int b_int (pa_cons (pv 2) pa_nil)) pa_nil)))
     pss_nil))))
     (pss_cons (ps_ret (pv 1))
     pss_nil))), ?_⟩
    have hs : Hs ⟨H, G, E, cl⟩ G [] H := Hs.start hg
    have hm := Wp.ofSp (G0 := G) hm
    try dsimp only at hm
    unfold m_law_numbers at hm
    refine (show (_ : TS) _ ([some (.str p_line), none, none, none] : L2.St) _ from ?_)
    refine w_asgN (K := K) (R := zI) (i := 1) (e_lst l_nil (by decide)) hs hm (fun p_numbers l_p_numbers vs_p_numbers G1 H1 e1 hs h1 hm => ?_)
    have h_p_numbers := h1
    refine (show (_ : TS) _ ([some (.str p_line), some (.ref l_p_numbers), none, none] : L2.St) _ from ?_)
    refine w_forB (K := K) (Rr := (rO (rK zI))) (fun (p_numbers : (List Int)) (σ : L2.St) (G : Hp) (O : Own) => ∃ (l_p_numbers : Addr) (vs_p_numbers : List V) (d_2 : Option V) (d_3 : Option V), σ = [some (.str p_line), some (.ref l_p_numbers), d_2, d_3] ∧ O = [(l_p_numbers, .lst vs_p_numbers)] ∧ RLs zI K G vs_p_numbers p_numbers) (i_list (e_KL (EvN.evK (n_spl (e_var (K := K) (i := 0) (R := rS) (x := p_line) rfl rfl) e_str)))) (fun _ _ _ _ _ _ h => nomatch h) (tg_name (i := 2) (R := rS)) hs hm ⟨l_p_numbers, vs_p_numbers, none, none, rfl, rfl, h_p_numbers⟩ (fun r v G2 O2 H2 hs2 hr2 hq => hq v G2 H2 hs2.fin hr2) (fun p_word p_numbers σ_ G1_2 G2 O_ H2 vv2 D2 Qb2 e2 w_ e12 hs hv2 E2 hm => ?_) (fun p_numbers σ_ G1_2 G2 O_ H2 e2 w_ e12 hs hm => ?_)
    · obtain ⟨l_p_numbers, vs_p_numbers, d_2, d_3, rfl, rfl, h_p_numbers⟩ := w_
      have h_p_numbers := RLs.mono e12 h_p_numbers
      obtain ⟨v_p_word, rfl, h_p_word⟩ := hv2
      cases (show v_p_word = V.str p_word from h_p_word)
      have b2 := Same.refl G2
      refine (show (_ : TS) _ ([some (.str p_line), some (.ref l_p_numbers), some (.str p_word), d_3] : L2.St) _ from ?_)
      unfold m_law_numbers_b9 at hm
      try dsimp only at hm
      refine w_if (t_or (t_test (K := K) (e_eq srS (e_var (K := K) (i := 2) (R := rS) (x := p_word) rfl rfl) e_str)) (t_and (t_test (K := K) (e_cmp (p := fun i j => decide (j < i)) (e_lenS (e_var (K := K) (i := 2) (R := rS) (x := p_word) rfl rfl)) e_int)) (t_test (K := K) (e_eq srS (e_ixS (e_var (K := K) (i := 2) (R := rS) (x := p_word) rfl rfl) e_int) e_str)))) hs hm (fun G3 H3 e3 hs hm => ?_) (fun G3 H3 e3 hs hm => ?_)
      · have h_p_numbers := RLs.mono e3 h_p_numbers
        have b2 := Same.trans b2 e3
        exact w_ret (K := K) (kr := Tn.rt) (e_nonO (R := (rK zI))) hs hm fun r v G2 H2 hs2 hr2 hq => E2.rt r v _ _ _ hs2 hr2 hq
      · have h_p_numbers := RLs.mono e3 h_p_numbers
        have b2 := Same.trans b2 e3
        refine nx_of ?_
        try dsimp only
        refine (show (_ : TS) _ ([some (.str p_line), some (.ref l_p_numbers), some (.str p_word), d_3] : L2.St) _ from ?_)
        refine w_forB (K := K) (Rr := (rO (rK zI))) (fun (_ : Unit) (σ : L2.St) (G : Hp) (O : Own) => ∃ (d_3 : Option V), σ = [some (.str p_line), some (.ref l_p_numbers), some (.str p_word), d_3] ∧ O = [(l_p_numbers, .lst vs_p_numbers)]) (i_str (e_var (K := K) (i := 2) (R := rS) (x := p_word) rfl rfl)) (fun _ _ _ _ _ _ h => nomatch h) (tg_name (i := 3) (R := rS)) hs hm ⟨d_3, rfl, rfl⟩ (fun r v G2 O2 H2 hs2 hr2 hq => E2.rt r v _ _ _ hs2 hr2 hq) (fun p_sign s_ σ_ G1_4 G4 O_ H4 vv4 D4 Qb4 e4 w_ e14 hs hv4 E4 hm => ?_) (fun s_ σ_ G1_4 G4 O_ H4 e4 w_ e14 hs hm => ?_)
        · obtain ⟨d_3, rfl, rfl⟩ := w_
          have h_p_numbers := RLs.mono e4 h_p_numbers
          obtain ⟨v_p_sign, rfl, h_p_sign⟩ := hv4
          cases (show v_p_sign = V.str p_sign from h_p_sign)
          have b4 := Same.refl G4
          refine (show (_ : TS) _ ([some (.str p_line), some (.ref l_p_numbers), some (.str p_word), some (.str p_sign)] : L2.St) _ from ?_)
          unfold m_law_numbers_b7 at hm
          try dsimp only at hm
          refine w_if (t_test (K := K) (e_ninS (e_var (K := K) (i := 3) (R := rS) (x := p_sign) rfl rfl) e_str)) hs hm (fun G5 H5 e5 hs hm => ?_) (fun G5 H5 e5 hs hm => ?_)
          · have h_p_numbers := RLs.mono e5 h_p_numbers
            have b4 := Same.trans b4 e5
            exact w_ret (K := K) (kr := Tn.rt) (e_nonO (R := (rK zI))) hs hm fun r v G2 H2 hs2 hr2 hq => E4.rt r v _ _ _ hs2 hr2 hq
          · have h_p_numbers := RLs.mono e5 h_p_numbers
            have b4 := Same.trans b4 e5
            refine nx_of ?_
            try dsimp only
            refine (show (_ : TS) _ ([some (.str p_line), some (.ref l_p_numbers), some (.str p_word), some (.str p_sign)] : L2.St) _ from ?_)
            exact E4.nx () _ _ _ _ _ b4 ⟨some (.str p_sign), rfl, rfl⟩ (Same.refl _) hs hm.out
        · obtain ⟨d_3, rfl, rfl⟩ := w_
          have h_p_numbers := RLs.mono e4 h_p_numbers
          have b2 := Same.trans b2 e4
          refine (show (_ : TS) _ ([some (.str p_line), some (.ref l_p_numbers), some (.str p_word), d_3] : L2.St) _ from ?_)
          try dsimp only at hm
          refine w_app (K := K) (i := 1) 0 (xs := p_numbers) rfl rfl h_p_numbers (e_intS (e_var (K := K) (i := 2) (R := rS) (x := p_word) rfl rfl)) hs hm (fun y6 w6 G6 H6 e6 hs h6 hm => ?_)
          have b2 := Same.trans b2 e6
          have h_p_numbers := h6
          generalize p_numbers ++ [y6] = p_numbers at hm h_p_numbers
          generalize vs_p_numbers ++ [w6] = vs_p_numbers at hs h_p_numbers
          exact E2.nx p_numbers _ _ _ _ _ b2 ⟨l_p_numbers, vs_p_numbers, some (.str p_word), d_3, rfl, rfl, h_p_numbers⟩ (Same.refl _) hs hm.out
    · obtain ⟨l_p_numbers, vs_p_numbers, d_2, d_3, rfl, rfl, h_p_numbers⟩ := w_
      have h_p_numbers := RLs.mono e12 h_p_numbers
      refine (show (_ : TS) _ ([some (.str p_line), some (.ref l_p_numbers), d_2, d_3] : L2.St) _ from ?_)
      try dsimp only at hm
      have ng8 := (hs.at 0 rfl).2.1
      have eg8 := same_new (o := HO.lst vs_p_numbers) ng8
      have hs := hs.give 0 rfl
      have h_p_numbers : (rK zI).r K _ (.ref l_p_numbers) p_numbers := ⟨l_p_numbers, vs_p_numbers, rfl, upd_same, RLs.mono eg8 h_p_numbers⟩
      exact w_ret0 (K := K) (e_some nn_K (e_var (K := K) (i := 1) (R := (rK zI)) (x := p_numbers) rfl h_p_numbers)) hs hm fun r v G2 H2 hs2 hr2 hq => hq v G2 H2 hs2.fin hr2

theorem ok_law_is_head {P : Program} {w : World} {K : PySem.W.Frag} {mg : Str → Option Value} {base : Heap} {cl : Nat → Addr} {fa : Addr} {fd : FuncData} (F : Fun K "_law_is_head" "_law_is_head" s_law_is_head fa fd) (T : Txt K mg cl)  :
    FnOk P w K mg base (L2.CX P w) 1 fa fd ["numbers"] (spP K cl (rs1 (rO (rK zI))) rB (fun a => m_law_is_head a)) := by
  refine F.okX sc_law_is_head (fun vs H Q E h => ?_) (fun cdv A outer s H vs Q E hr h => ?_)
  · obtain ⟨G, a, _, hS, _⟩ := h
    exact ln1 _ _ _ _ hS
  · obtain ⟨G, p_numbers, hg, hS, hm⟩ := h
    obtain ⟨v_p_numbers, rfl, h_p_numbers⟩ := hS
    refine ⟨_, (pss_cons (ps_if (PW.pt (pw_or (pt_cmpR op_isN (pv 0) pe_non (nomark _)) (pw_or (pt_cmpR op_ne (pe_callB (r := Mw.rLen K) call_len (by rfl) T.n_len b_len (pa_cons (pv 0) pa_nil)) pe_int (nomark _)) (pw_or1 (pt_cmpR op_gt (pe_ix (r := rIxL K) ix_list (pv 0) pe_int (fun _ _ => rfl)) pe_int (nomark _)))))) (pss_cons (ps_ret pe_bl)
     pss_nil) pss_nil)
     (pss_cons (ps_if (PW.pt (pw_or (pt_cmpR op_lt (pe_ix (r := rIxL K) ix_list (pv 0) pe_int (fun _ _ => rfl)) pe_int (nomark _)) (pw_or (pt_cmpR op_gt (pe_ix (r := rIxL K) ix_list (pv 0) pe_int (fun _ _ => rfl)) pe_int (nomark _)) (pw_or (pt_cmpR op_lt (pe_ix (r := rIxL K) ix_list (pv 0) pe_int (fun _ _ => rfl)) pe_int (nomark _)) (pw_or1 (pt_cmpR op_gt (pe_ix (r := rIxL K) ix_list (pv 0) pe_int (fun _ _ => rfl)) pe_int (nomark _))))))) (pss_cons (ps_ret pe_bl)
     pss_nil) pss_nil)
     (pss_cons (ps_ret (pe_cmpR op_le (pe_op op_mul (pe_ix (r := rIxL K) ix_list (pv 0) pe_int (fun _ _ => rfl)) (pe_op op_shl pe_int (pe_ix (r := rIxL K) ix_list (pv 0) pe_int (fun _ _ => rfl)))) pe_int (nomark _)))
     pss_nil))), ?_⟩
    have hs : Hs ⟨H, G, E, cl⟩ G [] H := Hs.start hg
    have hm := Wp.ofSp (G0 := G) hm
    try dsimp only at hm
    unfold m_law_is_head at hm
    refine (show (_ : TS) _ ([some v_p_numbers] : L2.St) _ from ?_)
    refine w_if (t_or (t_test (K := K) (e_isN (e_var (K := K) (i := 0) (R := (rO (rK zI))) (x := p_numbers) rfl h_p_numbers))) (t_or (t_test (K := K) (e_ne srI (e_len sq_K (e_get (e_var (K := K) (i := 0) (R := (rO (rK zI))) (x := p_numbers) rfl h_p_numbers))) e_int)) (t_test (K := K) (e_cmp (p := fun i j => decide (j < i)) (e_ixL (e_KL (e_get (e_var (K := K) (i := 0) (R := (rO (rK zI))) (x := p_numbers) rfl h_p_numbers))) e_int) e_int)))) hs hm (fun G1 H1 e1 hs hm => ?_) (fun G1 H1 e1 hs hm => ?_)
    · have h_p_numbers := (((rO (rK zI))).mono e1 h_p_numbers)
      exact w_ret0 (K := K) e_bl hs hm fun r v G2 H2 hs2 hr2 hq => hq v G2 H2 hs2.fin hr2
    · have h_p_numbers := (((rO (rK zI))).mono e1 h_p_numbers)
      refine nx_of ?_
      try dsimp only
      refine (show (_ : TS) _ ([some v_p_numbers] : L2.St) _ from ?_)
      refine w_if (t_or (t_test (K := K) (e_cmp (p := fun i j => decide (i < j)) (e_ixL (e_KL (e_get (e_var (K := K) (i := 0) (R := (rO (rK zI))) (x := p_numbers) rfl h_p_numbers))) e_int) e_int)) (t_or (t_test (K := K) (e_cmp (p := fun i j => decide (j < i)) (e_ixL (e_KL (e_get (e_var (K := K) (i := 0) (R := (rO (rK zI))) (x := p_numbers) rfl h_p_numbers))) e_int) e_int)) (t_or (t_test (K := K) (e_cmp (p := fun i j => decide (i < j)) (e_ixL (e_KL (e_get (e_var (K := K) (i := 0) (R := (rO (rK zI))) (x := p_numbers) rfl h_p_numbers))) e_int) e_int)) (t_test (K := K) (e_cmp (p := fun i j => decide (j < i)) (e_ixL (e_KL (e_get (e_var (K := K) (i := 0) (R := (rO (rK zI))) (x := p_numbers) rfl h_p_numbers))) e_int) e_int))))) hs hm (fun G2 H2 e2 hs hm => ?_) (fun G2 H2 e2 hs hm => ?_)
      · have h_p_numbers := (((rO (rK zI))).mono e2 h_p_numbers)
        exact w_ret0 (K := K) e_bl hs hm fun r v G2 H2 hs2 hr2 hq => hq v G2 H2 hs2.fin hr2
      · have h_p_numbers := (((rO (rK zI))).mono e2 h_p_numbers)
        refine nx_of ?_
        try dsimp only
        refine (show (_ : TS) _ ([some v_p_numbers] : L2.St) _ from ?_)
        exact w_ret0 (K := K) (e_cmp (p := fun i j => decide (i ≤ j)) (e_mul (e_ixL (e_KL (e_get (e_var (K := K) (i := 0) (R := (rO (rK zI))) (x := p_numbers) rfl h_p_numbers))) e_int) (e_shl e_int (e_ixL (e_KL (e_get (e_var (K := K) (i := 0) (R := (rO (rK zI))) (x := p_numbers) rfl h_p_numbers))) e_int))) e_int) hs hm fun r v G2 H2 hs2 hr2 hq => hq v G2 H2 hs2.fin hr2

theorem ok_law_row {P : Program} {w : World} {K : PySem.W.Frag} {mg : Str → Option Value} {base : Heap} {cl : Nat → Addr} {fa : Addr} {fd : FuncData} (F : Fun K "_law_row" "_law_row" s_law_row fa fd) (T : Txt K mg cl)  :
    FnOk P w K mg base (L2.CX P w) 1 fa fd ["head", "numbers"] (spP K cl (rsC (rK zI) (rs1 (rO (rK zI)))) (rO (rT (rP (rsC zI (rs1 zI))))) (fun a => m_law_row (a.1) (a.2))) := by
  refine F.okX sc_law_row (fun vs H Q E h => ?_) (fun cdv A outer s H vs Q E hr h => ?_)
  · obtain ⟨G, a, _, hS, _⟩ := h
    exact (lnC ln1) _ _ _ _ hS
  · obtain ⟨G, ⟨p_head, p_numbers⟩, hg, hS, hm⟩ := h
    obtain ⟨v_p_head, _, rfl, h_p_head, v_p_numbers, rfl, h_p_numbers⟩ := hS
    refine ⟨_, (pss_cons (ps_if (PW.pt (pw_or (pt_cmpR op_isN (pv 1) pe_non (nomark _)) (pw_or1 (pt_cmpR op_ne (pe_callB (r := Mw.rLen K) call_len (by rfl) T.n_len b_len (pa_cons (pv 1) pa_nil)) (pe_op op_mul pe_int (pe_op op_shl pe_int (pe_ix (r := rIxL K) ix_list (pv 0) pe_int (fun _ _ => rfl)))) (nomark _))))) (pss_cons (ps_ret pe_non)
     pss_nil) pss_nil)
     (pss_cons (ps_set (i := 2) sc_law_row.nd rfl (by first | exact Or.inl rfl | exact Or.inr rfl) (pe_callTy (r := rTu K) call_tuple_of (by rfl) T.n_tuple b_tuple (pa_cons (pe_lc (own := [("k", 5)]) rfl sc_law_row.nd (pi_range1 rfl T.n_range (pa_cons (pe_op op_fdiv (pe_callB (r := Mw.rLen K) call_len (by rfl) T.n_len b_len (pa_cons (pv 1) pa_nil)) pe_int) pa_nil)) (blkOk_by (own := [("k", 5)]) (N := N_law_row) (sc := defScope s_law_row) (by decide +kernel)) (fun _ _ _ _ _ => (pg_name (i := 5) sc_law_row.nd rfl (by first | exact Or.inl rfl | exact Or.inr rfl))) (fun _ _ _ _ _ => pts_nil) (fun _ _ _ _ _ => (pe_tup (pa_cons (pe_ix (r := rIxL K) ix_list (pv 1) (pe_op op_mul pe_int (pv 5)) (fun _ _ => rfl)) (pa_cons (pe_ix (r := rIxL K) ix_list (pv 1) (pe_op op_add (pe_op op_mul pe_int (pv 5)) pe_int) (fun _ _ => rfl)) pa_nil))))) pa_nil)))
     (pss_cons (ps_for (passes_of rfl) rfl (pi_tup (pv 2)) (show PG _ _ (gTup K 2 _) from pg_tup rfl (pgs_cons (pg_name (i := 3) sc_law_row.nd rfl (by first | exact Or.inl rfl | exact Or.inr rfl)) (pgs_cons (pg_name (i := 4) sc_law_row.nd rfl (by first | exact Or.inl rfl | exact Or.inr rfl)) pgs_nil))) (pss_cons (ps_if (PW.pt (pw_or (pt_cmpR op_ge (pv 3) (pe_ix (r := rIxL K) ix_list (pv 0) pe_int (fun _ _ => rfl)) (nomark _)) (pw_or1 (pt_cmpR op_ge (pv 4) (pe_op op_shl pe_int (pe_ix (r := rIxL K) ix_list (pv 0) pe_int (fun _ _ => rfl))) (nomark _))))) (pss_cons (ps_ret pe_non)
     pss_nil) pss_nil)
     pss_nil))
     (pss_cons (ps_ret (pv 2))
     pss_nil)))), ?_⟩
    have hs : Hs ⟨H, G, E, cl⟩ G [] H := Hs.start hg
    have hm := Wp.ofSp (G0 := G) hm
    try dsimp only at hm
    unfold m_law_row at hm
    refine (show (_ : TS) _ ([some v_p_head, some v_p_numbers, none, none, none, none] : L2.St) _ from ?_)
    refine w_if (t_or (t_test (K := K) (e_isN (e_var (K := K) (i := 1) (R := (rO (rK zI))) (x := p_numbers) rfl h_p_numbers))) (t_test (K := K) (e_ne srI (e_len sq_K (e_get (e_var (K := K) (i := 1) (R := (rO (rK zI))) (x := p_numbers) rfl h_p_numbers))) (e_mul e_int (e_shl e_int (e_ixL (e_KL (e_var (K := K) (i := 0) (R := (rK zI)) (x := p_head) rfl h_p_head)) e_int)))))) hs hm (fun G1 H1 e1 hs hm => ?_) (fun G1 H1 e1 hs hm => ?_)
    · have h_p_head := (((rK zI)).mono e1 h_p_head)
      have h_p_numbers := (((rO (rK zI))).mono e1 h_p_numbers)
      exact w_ret0 (K := K) (e_nonO (R := (rT (rP (rsC zI (rs1 zI)))))) hs hm fun r v G2 H2 hs2 hr2 hq => hq v G2 H2 hs2.fin hr2
    · have h_p_head := (((rK zI)).mono e1 h_p_head)
      have h_p_numbers := (((rO (rK zI))).mono e1 h_p_numbers)
      refine nx_of ?_
      try dsimp only
      refine (show (_ : TS) _ ([some v_p_head, some v_p_numbers, none, none, none, none] : L2.St) _ from ?_)
      refine w_asg (K := K) (tg_name (i := 2) (R := (rT (rP (rsC zI (rs1 zI)))))) (e_tupleL (e_KL (EvN.evK (n_lc (S := (rP (rsC zI (rs1 zI)))) (i_rng1 (e_fdiv (e_len sq_K (e_get (e_var (K := K) (i := 1) (R := (rO (rK zI))) (x := p_numbers) rfl h_p_numbers))) e_int)) (fun _ h => nomatch h) (tg_name (i := 5) (R := zI)) (by decide) (fun x2 vs2 G2 e2 hv2 => by
       obtain ⟨v2_p_k, rfl, h2_p_k⟩ := hv2
       exact ⟨t_yes, (e_tup (lnC ln1) (a_cons (e_ixL (e_KL (e_get (e_var (K := K) (i := 1) (R := (rO (rK zI))) (x := p_numbers) rfl (((rO (rK zI))).mono e2 h_p_numbers)))) (e_mul e_int (e_var (K := K) (i := 5) (R := zI) (x := x2) rfl h2_p_k))) (a_one (e_ixL (e_KL (e_get (e_var (K := K) (i := 1) (R := (rO (rK zI))) (x := p_numbers) rfl (((rO (rK zI))).mono e2 h_p_numbers)))) (e_add (e_mul e_int (e_var (K := K) (i := 5) (R := zI) (x := x2) rfl h2_p_k)) e_int)))) (by decide))⟩))))) hs hm (fun p_row vv3 G3 H3 e3 hs hv3 hm => ?_)
      obtain ⟨v_p_row, rfl, h_p_row⟩ := hv3
      have h_p_head := (((rK zI)).mono e3 h_p_head)
      have h_p_numbers := (((rO (rK zI))).mono e3 h_p_numbers)
      refine (show (_ : TS) _ ([some v_p_head, some v_p_numbers, some v_p_row, none, none, none] : L2.St) _ from ?_)
      refine w_forB (K := K) (Rr := (rO (rT (rP (rsC zI (rs1 zI)))))) (fun (_ : Unit) (σ : L2.St) (G : Hp) (O : Own) => ∃ (d_3 : Option V) (d_4 : Option V), σ = [some v_p_head, some v_p_numbers, some v_p_row, d_3, d_4, none] ∧ O = []) (i_tup (e_var (K := K) (i := 2) (R := (rT (rP (rsC zI (rs1 zI))))) (x := p_row) rfl h_p_row)) (fun _ _ _ _ _ _ h => nomatch h) (tg_tup2) hs hm ⟨none, none, rfl, rfl⟩ (fun r v G2 O2 H2 hs2 hr2 hq => hq v G2 H2 hs2.fin hr2) (fun x4 s_ σ_ G1_4 G4 O_ H4 vv4 D4 Qb4 e4 w_ e14 hs hv4 E4 hm => ?_) (fun s_ σ_ G1_4 G4 O_ H4 e4 w_ e14 hs hm => ?_)
      · obtain ⟨d_3, d_4, rfl, rfl⟩ := w_
        have h_p_head := (((rK zI)).mono e4 h_p_head)
        have h_p_numbers := (((rO (rK zI))).mono e4 h_p_numbers)
        have h_p_row := (((rT (rP (rsC zI (rs1 zI))))).mono e4 h_p_row)
        obtain ⟨p_target, p_answer⟩ := x4
        obtain ⟨v_p_target, _, rfl, h_p_target, v_p_answer, rfl, h_p_answer⟩ := hv4
        cases (show v_p_target = V.int p_target from h_p_target)
        cases (show v_p_answer = V.int p_answer from h_p_answer)
        have b4 := Same.refl G4
        refine (show (_ : TS) _ ([some v_p_head, some v_p_numbers, some v_p_row, some (.int p_target), some (.int p_answer), none] : L2.St) _ from ?_)
        unfold m_law_row_b6 at hm
        try dsimp only at hm
        refine w_if (t_or (t_test (K := K) (e_cmp (p := fun i j => decide (j ≤ i)) (e_var (K := K) (i := 3) (R := zI) (x := p_target) rfl rfl) (e_ixL (e_KL (e_var (K := K) (i := 0) (R := (rK zI)) (x := p_head) rfl h_p_head)) e_int))) (t_test (K := K) (e_cmp (p := fun i j => decide (j ≤ i)) (e_var (K := K) (i := 4) (R := zI) (x := p_answer) rfl rfl) (e_shl e_int (e_ixL (e_KL (e_var (K := K) (i := 0) (R := (rK zI)) (x := p_head) rfl h_p_head)) e_int))))) hs hm (fun G5 H5 e5 hs hm => ?_) (fun G5 H5 e5 hs hm => ?_)
        · have h_p_head := (((rK zI)).mono e5 h_p_head)
          have h_p_numbers := (((rO (rK zI))).mono e5 h_p_numbers)
          have h_p_row := (((rT (rP (rsC zI (rs1 zI))))).mono e5 h_p_row)
          have b4 := Same.trans b4 e5
          exact w_ret (K := K) (kr := Tn.rt) (e_nonO (R := (rT (rP (rsC zI (rs1 zI)))))) hs hm fun r v G2 H2 hs2 hr2 hq => E4.rt r v _ _ _ hs2 hr2 hq
        · have h_p_head := (((rK zI)).mono e5 h_p_head)
          have h_p_numbers := (((rO (rK zI))).mono e5 h_p_numbers)
          have h_p_row := (((rT (rP (rsC zI (rs1 zI))))).mono e5 h_p_row)
          have b4 := Same.trans b4 e5
          refine nx_of ?_
          try dsimp only
          refine (show (_ : TS) _ ([some v_p_head, some v_p_numbers, some v_p_row, some (.int p_target), some (.int p_answer), none] : L2.St) _ from ?_)
          exact E4.nx () _ _ _ _ _ b4 ⟨some (.int p_target), some (.int p_answer), rfl, rfl⟩ (Same.refl _) hs hm.out
      · obtain ⟨d_3, d_4, rfl, rfl⟩ := w_
        have h_p_head := (((rK zI)).mono e4 h_p_head)
        have h_p_numbers := (((rO (rK zI))).mono e4 h_p_numbers)
        have h_p_row := (((rT (rP (rsC zI (rs1 zI))))).mono e4 h_p_row)
        refine (show (_ : TS) _ ([some v_p_head, some v_p_numbers, some v_p_row, d_3, d_4, none] : L2.St) _ from ?_)
        try dsimp only at hm
        exact w_ret0 (K := K) (e_some nn_T (e_var (K := K) (i := 2) (R := (rT (rP (rsC zI (rs1 zI))))) (x := p_row) rfl h_p_row)) hs hm fun r v G2 H2 hs2 hr2 hq => hq v G2 H2 hs2.fin hr2

theorem ok_law_reading {P : Program} {w : World} {K : PySem.W.Frag} {mg : Str → Option Value} {base : Heap} {cl : Nat → Addr} {fa : Addr} {fd : FuncData} (F : Fun K "_law_reading" "_law_reading" s_law_reading fa fd) (T : Txt K mg cl) (C_law_numbers : Cal P w K mg base "_law_numbers" 1 ["line"] (spP K cl (rs1 rS) (rO (rK zI)) (fun a => m_law_numbers a))) (C_law_is_head : Cal P w K mg base "_law_is_head" 1 ["numbers"] (spP K cl (rs1 (rO (rK zI))) rB (fun a => m_law_is_head a))) (C_law_row : Cal P w K mg base "_law_row" 1 ["head", "numbers"] (spP K cl (rsC (rK zI) (rs1 (rO (rK zI)))) (rO (rT (rP (rsC zI (rs1 zI))))) (fun a => m_law_row (a.1) (a.2)))) :
    FnOk P w K mg base (L2.CX P w) 2 fa fd ["text"] (spP K cl (rs1 rS) (rU zI (rP (rsC zI (rsC zI (rs1 (rT (rT (rP (rsC zI (rs1 zI)))))))))) (fun a => m_law_reading a)) := by
  refine F.okX sc_law_reading (fun vs H Q E h => ?_) (fun cdv A outer s H vs Q E hr h => ?_)
  · obtain ⟨G, a, _, hS, _⟩ := h
    exact ln1 _ _ _ _ hS
  · obtain ⟨G, p_text, hg, hS, hm⟩ := h
    obtain ⟨v_p_text, rfl, h_p_text⟩ := hS
    cases (show v_p_text = V.str p_text from h_p_text)
    have tk : Takes (cxOf (L2.CX P w) P w K mg base N_law_reading "_law_reading" (defScope s_law_reading) fa cdv A outer s H E) (fun cls d _ H => E cls d H) := takes_of rfl rfl rfl rfl
    refine ⟨_, (pss_cons (ps_set (i := 1) sc_law_reading.nd rfl (by first | exact Or.inl rfl | exact Or.inr rfl) (pe_split (pv 0) pe_str))
     (pss_cons (ps_set (i := 2) sc_law_reading.nd rfl (by first | exact Or.inl rfl | exact Or.inr rfl) pe_non)
     (pss_cons (ps_set (i := 3) sc_law_reading.nd rfl (by first | exact Or.inl rfl | exact Or.inr rfl) (pe_lst pa_nil))
     (pss_cons (ps_for (passes_of rfl) rfl (pi_range1 rfl T.n_range (pa_cons (pe_op op_sub (pe_callB (r := Mw.rLen K) call_len (by rfl) T.n_len b_len (pa_cons (pv 1) pa_nil)) pe_int) pa_nil)) (pg_name (i := 4) sc_law_reading.nd rfl (by first | exact Or.inl rfl | exact Or.inr rfl)) (pss_cons (ps_set (i := 5) sc_law_reading.nd rfl (by first | exact Or.inl rfl | exact Or.inr rfl) (pe_call (E := E) C_law_numbers.ok (hr.mono (by decide)) rfl C_law_numbers.mgx C_law_numbers.kp C_law_numbers.bd .nil (passes_call tk (fun _ _ _ _ h => h)) (pa_cons (pe_ix (r := rIxL K) ix_list (pv 1) (pv 4) (fun _ _ => rfl)) pa_nil)))
     (pss_cons (ps_if (pt_cmpR op_eq (pv 4) pe_int (nomark _)) (pss_cons (ps_if (pt_not (pt_val (pe_call (E := E) C_law_is_head.ok (hr.mono (by decide)) rfl C_law_is_head.mgx C_law_is_head.kp C_law_is_head.bd .nil (passes_call tk (fun _ _ _ _ h => h)) (pa_cons (pv 5) pa_nil)))) (pss_cons (ps_ret pe_int)
     pss_nil) pss_nil)
     (pss_cons (ps_set (i := 2) sc_law_reading.nd rfl (by first | exact Or.inl rfl | exact Or.inr rfl) (pv 5))
     pss_nil)) (pss_cons (ps_set (i := 6) sc_law_reading.nd rfl (by first | exact Or.inl rfl | exact Or.inr rfl) (pe_call (E := E) C_law_row.ok (hr.mono (by decide)) rfl C_law_row.mgx C_law_row.kp C_law_row.bd .nil (passes_call tk (fun _ _ _ _ h => h)) (pa_cons (pv 2) (pa_cons (pv 5) pa_nil))))
     (pss_cons (ps_if (PW.pt (pw_or (pt_cmpR op_isN (pv 6) pe_non (nomark _)) (pw_or1 (pt_cmpR op_eq (pe_callB (r := Mw.rLen K) call_len (by rfl) T.n_len b_len (pa_cons (pv 3) pa_nil)) (pe_ix (r := rIxL K) ix_list (pv 2) pe_int (fun _ _ => rfl)) (nomark _))))) (pss_cons (ps_ret (pe_op op_add (pv 4) pe_int))
     pss_nil) pss_nil)
     (pss_cons (ps_expr (pe_bm PySem.F.plainAttrs_list PySem.F.slot_list_append PySem.F.type_list_append mt_append (pv 3) (pa_cons (pv 6) pa_nil)))
     pss_nil))))
     pss_nil)))
     (pss_cons (ps_if (PW.pt (pw_or (pt_cmpR op_ne (pe_ix (r := rIxL K) ix_list (pv 1) (pe_un un_neg pe_int) (fun _ _ => rfl)) pe_str (nomark _)) (pw_or (pt_cmpR op_isN (pv 2) pe_non (nomark _)) (pw_or1 (pt_cmpR op_lt (pe_callB (r := Mw.rLen K) call_len (by rfl) T.n_len b_len (pa_cons (pv 3) pa_nil)) (pe_ix (r := rIxL K) ix_list (pv 2) pe_int (fun _ _ => rfl)) (nomark _)))))) (pss_cons (ps_ret (pe_callB (r := Mw.rLen K) call_len (by rfl) T.n_len b_len (pa_cons (pv 1) pa_nil)))
     pss_nil) pss_nil)
     (pss_cons (ps_ret (pe_tup (pa_cons (pe_ix (r := rIxL K) ix_list (pv 2) pe_int (fun _ _ => rfl)) (pa_cons (pe_ix (r := rIxL K) ix_list (pv 2) pe_int (fun _ _ => rfl)) (pa_cons (pe_callTy (r := rTu K) call_tuple_of (by rfl) T.n_tuple b_tuple (pa_cons (pv 3) pa_nil)) pa_nil)))))
     pss_nil)))))), ?_⟩
    have hs : Hs ⟨H, G, E, cl⟩ G [] H := Hs.start hg
    have hm := Wp.ofSp (G0 := G) hm
    try dsimp only at hm
    unfold m_law_reading at hm
    refine (show (_ : TS) _ ([some (.str p_text), none, none, none, none, none, none] : L2.St) _ from ?_)
    refine w_asg (K := K) (tg_name (i := 1) (R := (rK rS))) (EvN.evK (n_spl (e_var (K := K) (i := 0) (R := rS) (x := p_text) rfl rfl) e_str)) hs hm (fun p_lines vv1 G1 H1 e1 hs hv1 hm => ?_)
    obtain ⟨v_p_lines, rfl, h_p_lines⟩ := hv1
    refine (show (_ : TS) _ ([some (.str p_text), some v_p_lines, none, none, none, none, none] : L2.St) _ from ?_)
    refine w_asg (K := K) (tg_name (i := 2) (R := (rO (rK zI)))) (e_nonO (R := (rK zI))) hs hm (fun p_head vv2 G2 H2 e2 hs hv2 hm => ?_)
    obtain ⟨v_p_head, rfl, h_p_head⟩ := hv2
    have h_p_lines := (((rK rS)).mono e2 h_p_lines)
    refine (show (_ : TS) _ ([some (.str p_text), some v_p_lines, some v_p_head, none, none, none, none] : L2.St) _ from ?_)
    refine w_asgN (K := K) (R := (rT (rP (rsC zI (rs1 zI))))) (i := 3) (e_lst l_nil (by decide)) hs hm (fun p_rows l_p_rows vs_p_rows G3 H3 e3 hs h3 hm => ?_)
    have h_p_lines := (((rK rS)).mono e3 h_p_lines)
    have h_p_head := (((rO (rK zI))).mono e3 h_p_head)
    have h_p_rows := h3
    refine (show (_ : TS) _ ([some (.str p_text), some v_p_lines, some v_p_head, some (.ref l_p_rows), none, none, none] : L2.St) _ from ?_)
    refine w_forB (K := K) (Rr := (rU zI (rP (rsC zI (rsC zI (rs1 (rT (rT (rP (rsC zI (rs1 zI))))))))))) (fun (s : (Option (List Int)) × (List (List (Int × Int)))) (σ : L2.St) (G : Hp) (O : Own) => match s with | (p_head, p_rows) => ∃ (v_p_head : V) (l_p_rows : Addr) (vs_p_rows : List V) (d_4 : Option V) (d_5 : Option V) (d_6 : Option V), σ = [some (.str p_text), some v_p_lines, some v_p_head, some (.ref l_p_rows), d_4, d_5, d_6] ∧ O = [(l_p_rows, .lst vs_p_rows)] ∧ ((rO (rK zI))).r K G v_p_head p_head ∧ RLs (rT (rP (rsC zI (rs1 zI)))) K G vs_p_rows p_rows) (i_rng1 (e_sub (e_len sq_K (e_var (K := K) (i := 1) (R := (rK rS)) (x := p_lines) rfl h_p_lines)) e_int)) (fun _ _ _ _ _ _ h => nomatch h) (tg_name (i := 4) (R := zI)) hs hm ⟨v_p_head, l_p_rows, vs_p_rows, none, none, none, rfl, rfl, h_p_head, h_p_rows⟩ (fun r v G2 O2 H2 hs2 hr2 hq => hq v G2 H2 hs2.fin hr2) (fun p_at s_ σ_ G1_4 G4 O_ H4 vv4 D4 Qb4 e4 w_ e14 hs hv4 E4 hm => ?_) (fun s_ σ_ G1_4 G4 O_ H4 e4 w_ e14 hs hm => ?_)
    · obtain ⟨p_head, p_rows⟩ := s_
      obtain ⟨v_p_head, l_p_rows, vs_p_rows, d_4, d_5, d_6, rfl, rfl, h_p_head, h_p_rows⟩ := w_
      have h_p_lines := (((rK rS)).mono e4 h_p_lines)
      have h_p_head := (((rO (rK zI))).mono e14 h_p_head)
      have h_p_rows := RLs.mono e14 h_p_rows
      obtain ⟨v_p_at, rfl, h_p_at⟩ := hv4
      cases (show v_p_at = V.int p_at from h_p_at)
      have b4 := Same.refl G4
      refine (show (_ : TS) _ ([some (.str p_text), some v_p_lines, some v_p_head, some (.ref l_p_rows), some (.int p_at), d_5, d_6] : L2.St) _ from ?_)
      unfold m_law_reading_b14 at hm
      try dsimp only at hm
      refine w_asg (K := K) (tg_name (i := 5) (R := (rO (rK zI)))) (e_call (fm := ⟨H, G, E, cl⟩) (a_one (e_ixL (e_KL (e_var (K := K) (i := 1) (R := (rK rS)) (x := p_lines) rfl h_p_lines)) (e_var (K := K) (i := 4) (R := zI) (x := p_at) rfl rfl)))) hs hm (fun p_numbers vv5 G5 H5 e5 hs hv5 hm => ?_)
      obtain ⟨v_p_numbers, rfl, h_p_numbers⟩ := hv5
      have h_p_lines := (((rK rS)).mono e5 h_p_lines)
      have h_p_head := (((rO (rK zI))).mono e5 h_p_head)
      have h_p_rows := RLs.mono e5 h_p_rows
      have b4 := Same.trans b4 e5
      refine (show (_ : TS) _ ([some (.str p_text), some v_p_lines, some v_p_head, some (.ref l_p_rows), some (.int p_at), some v_p_numbers, d_6] : L2.St) _ from ?_)
      refine w_if (t_test (K := K) (e_eq srI (e_var (K := K) (i := 4) (R := zI) (x := p_at) rfl rfl) e_int)) hs hm (fun G6 H6 e6 hs hm => ?_) (fun G6 H6 e6 hs hm => ?_)
      · have h_p_lines := (((rK rS)).mono e6 h_p_lines)
        have h_p_head := (((rO (rK zI))).mono e6 h_p_head)
        have h_p_rows := RLs.mono e6 h_p_rows
        have h_p_numbers := (((rO (rK zI))).mono e6 h_p_numbers)
        have b4 := Same.trans b4 e6
        refine w_if (t_not (t_val (K := K) (e_call (fm := ⟨H, G, E, cl⟩) (a_one (e_var (K := K) (i := 5) (R := (rO (rK zI))) (x := p_numbers) rfl h_p_numbers))))) hs hm (fun G7 H7 e7 hs hm => ?_) (fun G7 H7 e7 hs hm => ?_)
        · have h_p_lines := (((rK rS)).mono e7 h_p_lines)
          have h_p_head := (((rO (rK zI))).mono e7 h_p_head)
          have h_p_rows := RLs.mono e7 h_p_rows
          have h_p_numbers := (((rO (rK zI))).mono e7 h_p_numbers)
          have b4 := Same.trans b4 e7
          exact w_ret (K := K) (kr := Tn.rt) (e_inl (R := zI) (S := (rP (rsC zI (rsC zI (rs1 (rT (rT (rP (rsC zI (rs1 zI)))))))))) e_int) hs hm fun r v G2 H2 hs2 hr2 hq => E4.rt r v _ _ _ hs2 hr2 hq
        · have h_p_lines := (((rK rS)).mono e7 h_p_lines)
          have h_p_head := (((rO (rK zI))).mono e7 h_p_head)
          have h_p_rows := RLs.mono e7 h_p_rows
          have h_p_numbers := (((rO (rK zI))).mono e7 h_p_numbers)
          have b4 := Same.trans b4 e7
          refine nx_of ?_
          try dsimp only
          refine (show (_ : TS) _ ([some (.str p_text), some v_p_lines, some v_p_head, some (.ref l_p_rows), some (.int p_at), some v_p_numbers, d_6] : L2.St) _ from ?_)
          refine w_asg (K := K) (tg_name (i := 2) (R := (rO (rK zI)))) (e_var (K := K) (i := 5) (R := (rO (rK zI))) (x := p_numbers) rfl h_p_numbers) hs hm (fun p_head vv8 G8 H8 e8 hs hv8 hm => ?_)
          obtain ⟨v_p_head, rfl, h_p_head⟩ := hv8
          have h_p_lines := (((rK rS)).mono e8 h_p_lines)
          have h_p_rows := RLs.mono e8 h_p_rows
          have h_p_numbers := (((rO (rK zI))).mono e8 h_p_numbers)
          have b4 := Same.trans b4 e8
          refine (show (_ : TS) _ ([some (.str p_text), some v_p_lines, some v_p_head, some (.ref l_p_rows), some (.int p_at), some v_p_numbers, d_6] : L2.St) _ from ?_)
          refine nx_of ?_
          try dsimp only
          refine (show (_ : TS) _ ([some (.str p_text), some v_p_lines, some v_p_head, some (.ref l_p_rows), some (.int p_at), some v_p_numbers, d_6] : L2.St) _ from ?_)
          exact E4.nx (p_head, p_rows) _ _ _ _ _ b4 ⟨v_p_head, l_p_rows, vs_p_rows, some (.int p_at), some v_p_numbers, d_6, rfl, rfl, h_p_head, h_p_rows⟩ (Same.refl _) hs hm.out
      · have h_p_lines := (((rK rS)).mono e6 h_p_lines)
        have h_p_head := (((rO (rK zI))).mono e6 h_p_head)
        have h_p_rows := RLs.mono e6 h_p_rows
        have h_p_numbers := (((rO (rK zI))).mono e6 h_p_numbers)
        have b4 := Same.trans b4 e6
        refine w_asg (K := K) (tg_name (i := 6) (R := (rO (rT (rP (rsC zI (rs1 zI))))))) (e_call (fm := ⟨H, G, E, cl⟩) (a_cons (e_get (e_var (K := K) (i := 2) (R := (rO (rK zI))) (x := p_head) rfl h_p_head)) (a_one (e_var (K := K) (i := 5) (R := (rO (rK zI))) (x := p_numbers) rfl h_p_numbers)))) hs hm (fun p_row vv9 G9 H9 e9 hs hv9 hm => ?_)
        obtain ⟨v_p_row, rfl, h_p_row⟩ := hv9
        have h_p_lines := (((rK rS)).mono e9 h_p_lines)
        have h_p_head := (((rO (rK zI))).mono e9 h_p_head)
        have h_p_rows := RLs.mono e9 h_p_rows
        have h_p_numbers := (((rO (rK zI))).mono e9 h_p_numbers)
        have b4 := Same.trans b4 e9
        refine (show (_ : TS) _ ([some (.str p_text), some v_p_lines, some v_p_head, some (.ref l_p_rows), some (.int p_at), some v_p_numbers, some v_p_row] : L2.St) _ from ?_)
        refine w_if (t_or (t_test (K := K) (e_isN (e_var (K := K) (i := 6) (R := (rO (rT (rP (rsC zI (rs1 zI)))))) (x := p_row) rfl h_p_row))) (t_test (K := K) (e_eq srI (e_lenO (i := 3) (l := l_p_rows) rfl (List.mem_of_getElem? (i := 0) rfl) h_p_rows) (e_ixL (e_KL (e_get (e_var (K := K) (i := 2) (R := (rO (rK zI))) (x := p_head) rfl h_p_head))) e_int)))) hs hm (fun G10 H10 e10 hs hm => ?_) (fun G10 H10 e10 hs hm => ?_)
        · have h_p_lines := (((rK rS)).mono e10 h_p_lines)
          have h_p_head := (((rO (rK zI))).mono e10 h_p_head)
          have h_p_rows := RLs.mono e10 h_p_rows
          have h_p_numbers := (((rO (rK zI))).mono e10 h_p_numbers)
          have h_p_row := (((rO (rT (rP (rsC zI (rs1 zI)))))).mono e10 h_p_row)
          have b4 := Same.trans b4 e10
          exact w_ret (K := K) (kr := Tn.rt) (e_inl (R := zI) (S := (rP (rsC zI (rsC zI (rs1 (rT (rT (rP (rsC zI (rs1 zI)))))))))) (e_add (e_var (K := K) (i := 4) (R := zI) (x := p_at) rfl rfl) e_int)) hs hm fun r v G2 H2 hs2 hr2 hq => E4.rt r v _ _ _ hs2 hr2 hq
        · have h_p_lines := (((rK rS)).mono e10 h_p_lines)
          have h_p_head := (((rO (rK zI))).mono e10 h_p_head)
          have h_p_rows := RLs.mono e10 h_p_rows
          have h_p_numbers := (((rO (rK zI))).mono e10 h_p_numbers)
          have h_p_row := (((rO (rT (rP (rsC zI (rs1 zI)))))).mono e10 h_p_row)
          have b4 := Same.trans b4 e10
          refine nx_of ?_
          try dsimp only
          refine (show (_ : TS) _ ([some (.str p_text), some v_p_lines, some v_p_head, some (.ref l_p_rows), some (.int p_at), some v_p_numbers, some v_p_row] : L2.St) _ from ?_)
          refine w_app (K := K) (i := 3) 0 (xs := p_rows) rfl rfl h_p_rows (e_get (e_var (K := K) (i := 6) (R := (rO (rT (rP (rsC zI (rs1 zI)))))) (x := p_row) rfl h_p_row)) hs hm (fun y11 w11 G11 H11 e11 hs h11 hm => ?_)
          have h_p_lines := (((rK rS)).mono e11 h_p_lines)
          have h_p_head := (((rO (rK zI))).mono e11 h_p_head)
          have h_p_numbers := (((rO (rK zI))).mono e11 h_p_numbers)
          have h_p_row := (((rO (rT (rP (rsC zI (rs1 zI)))))).mono e11 h_p_row)
          have b4 := Same.trans b4 e11
          have h_p_rows := h11
          generalize p_rows ++ [y11] = p_rows at hm h_p_rows
          generalize vs_p_rows ++ [w11] = vs_p_rows at hs h_p_rows
          refine nx_of ?_
          try dsimp only
          refine (show (_ : TS) _ ([some (.str p_text), some v_p_lines, some v_p_head, some (.ref l_p_rows), some (.int p_at), some v_p_numbers, some v_p_row] : L2.St) _ from ?_)
          exact E4.nx (p_head, p_rows) _ _ _ _ _ b4 ⟨v_p_head, l_p_rows, vs_p_rows, some (.int p_at), some v_p_numbers, some v_p_row, rfl, rfl, h_p_head, h_p_rows⟩ (Same.refl _) hs hm.out
    · obtain ⟨p_head, p_rows⟩ := s_
      obtain ⟨v_p_head, l_p_rows, vs_p_rows, d_4, d_5, d_6, rfl, rfl, h_p_head, h_p_rows⟩ := w_
      have h_p_lines := (((rK rS)).mono e4 h_p_lines)
      have h_p_head := (((rO (rK zI))).mono e14 h_p_head)
      have h_p_rows := RLs.mono e14 h_p_rows
      refine (show (_ : TS) _ ([some (.str p_text), some v_p_lines, some v_p_head, some (.ref l_p_rows), d_4, d_5, d_6] : L2.St) _ from ?_)
      try dsimp only at hm
      refine w_if (t_or (t_test (K := K) (e_ne srS (e_ixL (e_KL (e_var (K := K) (i := 1) (R := (rK rS)) (x := p_lines) rfl h_p_lines)) (e_neg e_int)) e_str)) (t_or (t_test (K := K) (e_isN (e_var (K := K) (i := 2) (R := (rO (rK zI))) (x := p_head) rfl h_p_head))) (t_test (K := K) (e_cmp (p := fun i j => decide (i < j)) (e_lenO (i := 3) (l := l_p_rows) rfl (List.mem_of_getElem? (i := 0) rfl) h_p_rows) (e_ixL (e_KL (e_get (e_var (K := K) (i := 2) (R := (rO (rK zI))) (x := p_head) rfl h_p_head))) e_int))))) hs hm (fun G12 H12 e12 hs hm => ?_) (fun G12 H12 e12 hs hm => ?_)
      · have h_p_lines := (((rK rS)).mono e12 h_p_lines)
        have h_p_head := (((rO (rK zI))).mono e12 h_p_head)
        have h_p_rows := RLs.mono e12 h_p_rows
        exact w_ret0 (K := K) (e_inl (R := zI) (S := (rP (rsC zI (rsC zI (rs1 (rT (rT (rP (rsC zI (rs1 zI)))))))))) (e_len sq_K (e_var (K := K) (i := 1) (R := (rK rS)) (x := p_lines) rfl h_p_lines))) hs hm fun r v G2 H2 hs2 hr2 hq => hq v G2 H2 hs2.fin hr2
      · have h_p_lines := (((rK rS)).mono e12 h_p_lines)
        have h_p_head := (((rO (rK zI))).mono e12 h_p_head)
        have h_p_rows := RLs.mono e12 h_p_rows
        refine nx_of ?_
        try dsimp only
        refine (show (_ : TS) _ ([some (.str p_text), some v_p_lines, some v_p_head, some (.ref l_p_rows), d_4, d_5, d_6] : L2.St) _ from ?_)
        have ng13 := (hs.at 0 rfl).2.1
        have eg13 := same_new (o := HO.lst vs_p_rows) ng13
        have hs := hs.give 0 rfl
        have h_p_rows : (rK (rT (rP (rsC zI (rs1 zI))))).r K _ (.ref l_p_rows) p_rows := ⟨l_p_rows, vs_p_rows, rfl, upd_same, RLs.mono eg13 h_p_rows⟩
        have h_p_lines := (((rK rS)).mono eg13 h_p_lines)
        have h_p_head := (((rO (rK zI))).mono eg13 h_p_head)
        exact w_ret0 (K := K) (e_inr (R := zI) (S := (rP (rsC zI (rsC zI (rs1 (rT (rT (rP (rsC zI (rs1 zI)))))))))) (e_tup (lnC (lnC ln1)) (a_cons (e_ixL (e_KL (e_get (e_var (K := K) (i := 2) (R := (rO (rK zI))) (x := p_head) rfl h_p_head))) e_int) (a_cons (e_ixL (e_KL (e_get (e_var (K := K) (i := 2) (R := (rO (rK zI))) (x := p_head) rfl h_p_head))) e_int) (a_one (e_tupleL (e_KL (e_var (K := K) (i := 3) (R := (rK (rT (rP (rsC zI (rs1 zI)))))) (x := p_rows) rfl h_p_rows)))))) (by decide))) hs hm fun r v G2 H2 hs2 hr2 hq => hq v G2 H2 hs2.fin hr2

theorem ok_law_sign_changed {P : Program} {w : World} {K : PySem.W.Frag} {mg : Str → Option Value} {base : Heap} {cl : Nat → Addr} {fa : Addr} {fd : FuncData} (F : Fun K "_law_sign_changed" "_law_sign_changed" s_law_sign_changed fa fd) (T : Txt K mg cl)  :
    FnOk P w K mg base (L2.CX P w) 1 fa fd ["text", "parts"] (spP K cl (rsC rS (rs1 (rK zI))) rS (fun a => m_law_sign_changed (a.1) (a.2))) := by
  refine F.okX sc_law_sign_changed (fun vs H Q E h => ?_) (fun cdv A outer s H vs Q E hr h => ?_)
  · obtain ⟨G, a, _, hS, _⟩ := h
    exact (lnC ln1) _ _ _ _ hS
  · obtain ⟨G, ⟨p_text, p_parts⟩, hg, hS, hm⟩ := h
    obtain ⟨v_p_text, _, rfl, h_p_text, v_p_parts, rfl, h_p_parts⟩ := hS
    cases (show v_p_text = V.str p_text from h_p_text)
    refine ⟨_, (pss_cons (ps_set (i := 2) sc_law_sign_changed.nd rfl (by first | exact Or.inl rfl | exact Or.inr rfl) (pe_ix (r := rIxS) ix_str pe_str (pe_op op_mod (pe_callTy call_int1 (by rfl) T.n_int b_int (pa_cons (pe_ix (r := rIxL K) ix_list (pv 1) pe_int (fun _ _ => rfl)) pa_nil)) pe_int) (fun _ _ => rfl)))
     (pss_cons (ps_set (i := 3) sc_law_sign_changed.nd rfl (by first | exact Or.inl rfl | exact Or.inr rfl) (pe_op op_mod (pe_callTy call_int1 (by rfl) T.n_int b_int (pa_cons (pe_ix (r := rIxL K) ix_list (pv 1) pe_int (fun _ _ => rfl)) pa_nil)) (pe_op op_add (pe_callB (r := Mw.rLen K) call_len (by rfl) T.n_len b_len (pa_cons (pv 0) pa_nil)) pe_int)))
     (pss_cons (ps_if (pt_cmpR op_eq (pe_ix (r := rIxL K) ix_list (pv 1) pe_int (fun _ _ => rfl)) pe_int (nomark _)) (pss_cons (ps_ret (pe_op (r := rAddS) op_add_str (pe_op (r := rAddS) op_add_str (pe_slice (r := C8.rSlX) C8.sl_txt (pv 0) po_none (po_some (pv 3))) (pv 2)) (pe_slice (r := C8.rSlX) C8.sl_txt (pv 0) (po_some (pv 3)) po_none)))
     pss_nil) pss_nil)
     (pss_cons (ps_if (pt_cmpR op_eq (pe_ix (r := rIxL K) ix_list (pv 1) pe_int (fun _ _ => rfl)) pe_int (nomark _)) (pss_cons (ps_ret (pe_op (r := rAddS) op_add_str (pe_slice (r := C8.rSlX) C8.sl_txt (pv 0) po_none (po_some (pv 3))) (pe_slice (r := C8.rSlX) C8.sl_txt (pv 0) (po_some (pe_op op_add (pv 3) pe_int)) po_none)))
     pss_nil) pss_nil)
     (pss_cons (ps_ret (pe_op (r := rAddS) op_add_str (pe_op (r := rAddS) op_add_str (pe_slice (r := C8.rSlX) C8.sl_txt (pv 0) po_none (po_some (pv 3))) (pv 2)) (pe_slice (r := C8.rSlX) C8.sl_txt (pv 0) (po_some (pe_op op_add (pv 3) pe_int)) po_none)))
     pss_nil))))), ?_⟩
    have hs : Hs ⟨H, G, E, cl⟩ G [] H := Hs.start hg
    have hm := Wp.ofSp (G0 := G) hm
    try dsimp only at hm
    unfold m_law_sign_changed at hm
    refine (show (_ : TS) _ ([some (.str p_text), some v_p_parts, none, none] : L2.St) _ from ?_)
    refine w_asg (K := K) (tg_name (i := 2) (R := rS)) (e_ixS e_str (e_mod (e_intI (e_ixL (e_KL (e_var (K := K) (i := 1) (R := (rK zI)) (x := p_parts) rfl h_p_parts)) e_int)) e_int)) hs hm (fun p_sign vv1 G1 H1 e1 hs hv1 hm => ?_)
    obtain ⟨v_p_sign, rfl, h_p_sign⟩ := hv1
    cases (show v_p_sign = V.str p_sign from h_p_sign)
    have h_p_parts := (((rK zI)).mono e1 h_p_parts)
    refine (show (_ : TS) _ ([some (.str p_text), some v_p_parts, some (.str p_sign), none] : L2.St) _ from ?_)
    refine w_asg (K := K) (tg_name (i := 3) (R := zI)) (e_mod (e_intI (e_ixL (e_KL (e_var (K := K) (i := 1) (R := (rK zI)) (x := p_parts) rfl h_p_parts)) e_int)) (e_add (e_lenS (e_var (K := K) (i := 0) (R := rS) (x := p_text) rfl rfl)) e_int)) hs hm (fun p_at vv2 G2 H2 e2 hs hv2 hm => ?_)
    obtain ⟨v_p_at, rfl, h_p_at⟩ := hv2
    cases (show v_p_at = V.int p_at from h_p_at)
    have h_p_parts := (((rK zI)).mono e2 h_p_parts)
    refine (show (_ : TS) _ ([some (.str p_text), some v_p_parts, some (.str p_sign), some (.int p_at)] : L2.St) _ from ?_)
    refine w_if (t_test (K := K) (e_eq srI (e_ixL (e_KL (e_var (K := K) (i := 1) (R := (rK zI)) (x := p_parts) rfl h_p_parts)) e_int) e_int)) hs hm (fun G3 H3 e3 hs hm => ?_) (fun G3 H3 e3 hs hm => ?_)
    · have h_p_parts := (((rK zI)).mono e3 h_p_parts)
      exact w_ret0 (K := K) (e_addS (e_addS (e_slS (e_var (K := K) (i := 0) (R := rS) (x := p_text) rfl rfl) o_none (o_some (K := K) (e_var (K := K) (i := 3) (R := zI) (x := p_at) rfl rfl))) (e_var (K := K) (i := 2) (R := rS) (x := p_sign) rfl rfl)) (e_slS (e_var (K := K) (i := 0) (R := rS) (x := p_text) rfl rfl) (o_some (K := K) (e_var (K := K) (i := 3) (R := zI) (x := p_at) rfl rfl)) o_none)) hs hm fun r v G2 H2 hs2 hr2 hq => hq v G2 H2 hs2.fin hr2
    · have h_p_parts := (((rK zI)).mono e3 h_p_parts)
      refine nx_of ?_
      try dsimp only
      refine (show (_ : TS) _ ([some (.str p_text), some v_p_parts, some (.str p_sign), some (.int p_at)] : L2.St) _ from ?_)
      refine w_if (t_test (K := K) (e_eq srI (e_ixL (e_KL (e_var (K := K) (i := 1) (R := (rK zI)) (x := p_parts) rfl h_p_parts)) e_int) e_int)) hs hm (fun G4 H4 e4 hs hm => ?_) (fun G4 H4 e4 hs hm => ?_)
      · have h_p_parts := (((rK zI)).mono e4 h_p_parts)
        exact w_ret0 (K := K) (e_addS (e_slS (e_var (K := K) (i := 0) (R := rS) (x := p_text) rfl rfl) o_none (o_some (K := K) (e_var (K := K) (i := 3) (R := zI) (x := p_at) rfl rfl))) (e_slS (e_var (K := K) (i := 0) (R := rS) (x := p_text) rfl rfl) (o_some (K := K) (e_add (e_var (K := K) (i := 3) (R := zI) (x := p_at) rfl rfl) e_int)) o_none)) hs hm fun r v G2 H2 hs2 hr2 hq => hq v G2 H2 hs2.fin hr2
      · have h_p_parts := (((rK zI)).mono e4 h_p_parts)
        refine nx_of ?_
        try dsimp only
        refine (show (_ : TS) _ ([some (.str p_text), some v_p_parts, some (.str p_sign), some (.int p_at)] : L2.St) _ from ?_)
        exact w_ret0 (K := K) (e_addS (e_addS (e_slS (e_var (K := K) (i := 0) (R := rS) (x := p_text) rfl rfl) o_none (o_some (K := K) (e_var (K := K) (i := 3) (R := zI) (x := p_at) rfl rfl))) (e_var (K := K) (i := 2) (R := rS) (x := p_sign) rfl rfl)) (e_slS (e_var (K := K) (i := 0) (R := rS) (x := p_text) rfl rfl) (o_some (K := K) (e_add (e_var (K := K) (i := 3) (R := zI) (x := p_at) rfl rfl) e_int)) o_none)) hs hm fun r v G2 H2 hs2 hr2 hq => hq v G2 H2 hs2.fin hr2

theorem ok_law_word_changed {P : Program} {w : World} {K : PySem.W.Frag} {mg : Str → Option Value} {base : Heap} {cl : Nat → Addr} {fa : Addr} {fd : FuncData} (F : Fun K "_law_word_changed" "_law_word_changed" s_law_word_changed fa fd) (T : Txt K mg cl)  :
    FnOk P w K mg base (L2.CX P w) 1 fa fd ["text", "parts"] (spP K cl (rsC rS (rs1 (rK zI))) rS (fun a => m_law_word_changed (a.1) (a.2))) := by
  refine F.okX sc_law_word_changed (fun vs H Q E h => ?_) (fun cdv A outer s H vs Q E hr h => ?_)
  · obtain ⟨G, a, _, hS, _⟩ := h
    exact (lnC ln1) _ _ _ _ hS
  · obtain ⟨G, ⟨p_text, p_parts⟩, hg, hS, hm⟩ := h
    obtain ⟨v_p_text, _, rfl, h_p_text, v_p_parts, rfl, h_p_parts⟩ := hS
    cases (show v_p_text = V.str p_text from h_p_text)
    refine ⟨_, (pss_cons (ps_set (i := 2) sc_law_word_changed.nd rfl (by first | exact Or.inl rfl | exact Or.inr rfl) (pe_split (pv 0) pe_str))
     (pss_cons (ps_set (i := 3) sc_law_word_changed.nd rfl (by first | exact Or.inl rfl | exact Or.inr rfl) (pe_op op_mod (pe_callTy call_int1 (by rfl) T.n_int b_int (pa_cons (pe_ix (r := rIxL K) ix_list (pv 1) pe_int (fun _ _ => rfl)) pa_nil)) (pe_callB (r := Mw.rLen K) call_len (by rfl) T.n_len b_len (pa_cons (pv 2) pa_nil))))
     (pss_cons (ps_set (i := 4) sc_law_word_changed.nd rfl (by first | exact Or.inl rfl | exact Or.inr rfl) (pe_split (pe_ix (r := rIxL K) ix_list (pv 2) (pv 3) (fun _ _ => rfl)) pe_str))
     (pss_cons (ps_set (i := 5) sc_law_word_changed.nd rfl (by first | exact Or.inl rfl | exact Or.inr rfl) (pe_op op_mod (pe_callTy call_int1 (by rfl) T.n_int b_int (pa_cons (pe_ix (r := rIxL K) ix_list (pv 1) pe_int (fun _ _ => rfl)) pa_nil)) (pe_callB (r := Mw.rLen K) call_len (by rfl) T.n_len b_len (pa_cons (pv 4) pa_nil))))
     (pss_cons (ps_set (i := 6) sc_law_word_changed.nd rfl (by first | exact Or.inl rfl | exact Or.inr rfl) (pe_lst (pa_cons pe_str (pa_cons (pe_op (r := rAddS) op_add_str pe_str (pe_ix (r := rIxL K) ix_list (pv 4) (pv 5) (fun _ _ => rfl))) (pa_cons (pe_op (r := rAddS) op_add_str (pe_ix (r := rIxL K) ix_list (pv 4) (pv 5) (fun _ _ => rfl)) pe_str) (pa_cons (pe_op (r := rMulS) op_mulS pe_str pe_int) (pa_cons (pe_callTy (r := rStrI) call_str_int (by rfl) T.n_str b_str (pa_cons (pe_op op_mod (pe_callTy call_int1 (by rfl) T.n_int b_int (pa_cons (pe_ix (r := rIxL K) ix_list (pv 1) pe_int (fun _ _ => rfl)) pa_nil)) pe_int) pa_nil)) (pa_cons pe_str (pa_cons pe_str (pa_cons pe_str (pa_cons pe_str (pa_cons pe_str pa_nil))))))))))))
     (pss_cons (ps_asg (pe_ix (r := rIxL K) ix_list (pe_op op_cat (pv 6) (pe_lst (pa_cons pe_str (pa_cons pe_str (pa_cons pe_str (pa_cons pe_str (pa_cons pe_str (pa_cons pe_str pa_nil)))))))) (pe_op op_mod (pe_callTy call_int1 (by rfl) T.n_int b_int (pa_cons (pe_ix (r := rIxL K) ix_list (pv 1) pe_int (fun _ _ => rfl)) pa_nil)) pe_int) (fun _ _ => rfl)) (pg_sub (pv 4) (pv 5) set_list))
     (pss_cons (ps_ret (pe_join pe_str (pe_op op_cat (pe_op op_cat (pe_slice (r := rSlL K) sl_list (pv 2) po_none (po_some (pv 3))) (pe_lst (pa_cons (pe_join pe_str (pv 4)) pa_nil))) (pe_slice (r := rSlL K) sl_list (pv 2) (po_some (pe_op op_add (pv 3) pe_int)) po_none))))
     pss_nil))))))), ?_⟩
    have hs : Hs ⟨H, G, E, cl⟩ G [] H := Hs.start hg
    have hm := Wp.ofSp (G0 := G) hm
    try dsimp only at hm
    unfold m_law_word_changed at hm
    refine (show (_ : TS) _ ([some (.str p_text), some v_p_parts, none, none, none, none, none] : L2.St) _ from ?_)
    refine w_asg (K := K) (tg_name (i := 2) (R := (rK rS))) (EvN.evK (n_spl (e_var (K := K) (i := 0) (R := rS) (x := p_text) rfl rfl) e_str)) hs hm (fun p_lines vv1 G1 H1 e1 hs hv1 hm => ?_)
    obtain ⟨v_p_lines, rfl, h_p_lines⟩ := hv1
    have h_p_parts := (((rK zI)).mono e1 h_p_parts)
    refine (show (_ : TS) _ ([some (.str p_text), some v_p_parts, some v_p_lines, none, none, none, none] : L2.St) _ from ?_)
    refine w_asg (K := K) (tg_name (i := 3) (R := zI)) (e_mod (e_intI (e_ixL (e_KL (e_var (K := K) (i := 1) (R := (rK zI)) (x := p_parts) rfl h_p_parts)) e_int)) (e_len sq_K (e_var (K := K) (i := 2) (R := (rK rS)) (x := p_lines) rfl h_p_lines))) hs hm (fun p_at vv2 G2 H2 e2 hs hv2 hm => ?_)
    obtain ⟨v_p_at, rfl, h_p_at⟩ := hv2
    cases (show v_p_at = V.int p_at from h_p_at)
    have h_p_parts := (((rK zI)).mono e2 h_p_parts)
    have h_p_lines := (((rK rS)).mono e2 h_p_lines)
    refine (show (_ : TS) _ ([some (.str p_text), some v_p_parts, some v_p_lines, some (.int p_at), none, none, none] : L2.St) _ from ?_)
    refine w_asgN (K := K) (R := rS) (i := 4) (n_spl (e_ixL (e_KL (e_var (K := K) (i := 2) (R := (rK rS)) (x := p_lines) rfl h_p_lines)) (e_var (K := K) (i := 3) (R := zI) (x := p_at) rfl rfl)) e_str) hs hm (fun p_words l_p_words vs_p_words G3 H3 e3 hs h3 hm => ?_)
    have h_p_parts := (((rK zI)).mono e3 h_p_parts)
    have h_p_lines := (((rK rS)).mono e3 h_p_lines)
    have h_p_words := h3
    refine (show (_ : TS) _ ([some (.str p_text), some v_p_parts, some v_p_lines, some (.int p_at), some (.ref l_p_words), none, none] : L2.St) _ from ?_)
    refine w_asg (K := K) (tg_name (i := 5) (R := zI)) (e_mod (e_intI (e_ixL (e_KL (e_var (K := K) (i := 1) (R := (rK zI)) (x := p_parts) rfl h_p_parts)) e_int)) (e_lenO (i := 4) (l := l_p_words) rfl (List.mem_of_getElem? (i := 0) rfl) h_p_words)) hs hm (fun p_place vv4 G4 H4 e4 hs hv4 hm => ?_)
    obtain ⟨v_p_place, rfl, h_p_place⟩ := hv4
    cases (show v_p_place = V.int p_place from h_p_place)
    have h_p_parts := (((rK zI)).mono e4 h_p_parts)
    have h_p_lines := (((rK rS)).mono e4 h_p_lines)
    have h_p_words := RLs.mono e4 h_p_words
    refine (show (_ : TS) _ ([some (.str p_text), some v_p_parts, some v_p_lines, some (.int p_at), some (.ref l_p_words), some (.int p_place), none] : L2.St) _ from ?_)
    refine w_asg (K := K) (tg_name (i := 6) (R := (rK rS))) (EvN.evK (e_lst (l_cons e_str (l_cons (e_addS e_str (e_ixO (i := 4) (l := l_p_words) rfl (List.mem_of_getElem? (i := 0) rfl) h_p_words (e_var (K := K) (i := 5) (R := zI) (x := p_place) rfl rfl))) (l_cons (e_addS (e_ixO (i := 4) (l := l_p_words) rfl (List.mem_of_getElem? (i := 0) rfl) h_p_words (e_var (K := K) (i := 5) (R := zI) (x := p_place) rfl rfl)) e_str) (l_cons (e_mulS e_str e_int) (l_cons (e_strI (e_mod (e_intI (e_ixL (e_KL (e_var (K := K) (i := 1) (R := (rK zI)) (x := p_parts) rfl h_p_parts)) e_int)) e_int)) (l_cons e_str (l_cons e_str (l_cons e_str (l_cons e_str (l_cons e_str l_nil)))))))))) (by decide))) hs hm (fun p_others vv5 G5 H5 e5 hs hv5 hm => ?_)
    obtain ⟨v_p_others, rfl, h_p_others⟩ := hv5
    have h_p_parts := (((rK zI)).mono e5 h_p_parts)
    have h_p_lines := (((rK rS)).mono e5 h_p_lines)
    have h_p_words := RLs.mono e5 h_p_words
    refine (show (_ : TS) _ ([some (.str p_text), some v_p_parts, some v_p_lines, some (.int p_at), some (.ref l_p_words), some (.int p_place), some v_p_others] : L2.St) _ from ?_)
    refine w_set (K := K) (i := 4) 0 (xs := p_words) rfl rfl h_p_words (e_ixL (e_KL (EvN.evK (n_cat (e_var (K := K) (i := 6) (R := (rK rS)) (x := p_others) rfl h_p_others) (EvN.evK (e_lst (l_cons e_str (l_cons e_str (l_cons e_str (l_cons e_str (l_cons e_str (l_cons e_str l_nil)))))) (by decide)))))) (e_mod (e_intI (e_ixL (e_KL (e_var (K := K) (i := 1) (R := (rK zI)) (x := p_parts) rfl h_p_parts)) e_int)) e_int)) (e_var (K := K) (i := 5) (R := zI) (x := p_place) rfl rfl) hs hm (fun p_words vs_p_words G6 H6 e6 hs h6 hm => ?_)
    have h_p_parts := (((rK zI)).mono e6 h_p_parts)
    have h_p_lines := (((rK rS)).mono e6 h_p_lines)
    have h_p_others := (((rK rS)).mono e6 h_p_others)
    have h_p_words := h6
    have ng7 := (hs.at 0 rfl).2.1
    have eg7 := same_new (o := HO.lst vs_p_words) ng7
    have hs := hs.give 0 rfl
    have h_p_words : (rK rS).r K _ (.ref l_p_words) p_words := ⟨l_p_words, vs_p_words, rfl, upd_same, RLs.mono eg7 h_p_words⟩
    have h_p_parts := (((rK zI)).mono eg7 h_p_parts)
    have h_p_lines := (((rK rS)).mono eg7 h_p_lines)
    have h_p_others := (((rK rS)).mono eg7 h_p_others)
    exact w_ret0 (K := K) (e_jn e_str (e_KL (EvN.evK (n_cat (EvN.evK (n_cat (EvN.evK (n_slice (e_KL (e_var (K := K) (i := 2) (R := (rK rS)) (x := p_lines) rfl h_p_lines)) o_none (o_some (K := K) (e_var (K := K) (i := 3) (R := zI) (x := p_at) rfl rfl)))) (EvN.evK (e_lst (l_cons (e_jn e_str (e_KL (e_var (K := K) (i := 4) (R := (rK rS)) (x := p_words) rfl h_p_words))) l_nil) (by decide))))) (EvN.evK (n_slice (e_KL (e_var (K := K) (i := 2) (R := (rK rS)) (x := p_lines) rfl h_p_lines)) (o_some (K := K) (e_add (e_var (K := K) (i := 3) (R := zI) (x := p_at) rfl rfl) e_int)) o_none)))))) hs hm fun r v G2 H2 hs2 hr2 hq => hq v G2 H2 hs2.fin hr2

theorem ok_law_line_changed {P : Program} {w : World} {K : PySem.W.Frag} {mg : Str → Option Value} {base : Heap} {cl : Nat → Addr} {fa : Addr} {fd : FuncData} (F : Fun K "_law_line_changed" "_law_line_changed" s_law_line_changed fa fd) (T : Txt K mg cl)  :
    FnOk P w K mg base (L2.CX P w) 1 fa fd ["text", "parts"] (spP K cl (rsC rS (rs1 (rK zI))) rS (fun a => m_law_line_changed (a.1) (a.2))) := by
  refine F.okX sc_law_line_changed (fun vs H Q E h => ?_) (fun cdv A outer s H vs Q E hr h => ?_)
  · obtain ⟨G, a, _, hS, _⟩ := h
    exact (lnC ln1) _ _ _ _ hS
  · obtain ⟨G, ⟨p_text, p_parts⟩, hg, hS, hm⟩ := h
    obtain ⟨v_p_text, _, rfl, h_p_text, v_p_parts, rfl, h_p_parts⟩ := hS
    cases (show v_p_text = V.str p_text from h_p_text)
    refine ⟨_, (pss_cons (ps_set (i := 2) sc_law_line_changed.nd rfl (by first | exact Or.inl rfl | exact Or.inr rfl) (pe_split (pv 0) pe_str))
     (pss_cons (ps_set (i := 3) sc_law_line_changed.nd rfl (by first | exact Or.inl rfl | exact Or.inr rfl) (pe_op op_mod (pe_callTy call_int1 (by rfl) T.n_int b_int (pa_cons (pe_ix (r := rIxL K) ix_list (pv 1) pe_int (fun _ _ => rfl)) pa_nil)) (pe_callB (r := Mw.rLen K) call_len (by rfl) T.n_len b_len (pa_cons (pv 2) pa_nil))))
     (pss_cons (ps_if (pt_cmpR op_eq (pe_ix (r := rIxL K) ix_list (pv 1) pe_int (fun _ _ => rfl)) pe_int (nomark _)) (pss_cons (ps_ret (pe_join pe_str (pe_op op_cat (pe_slice (r := rSlL K) sl_list (pv 2) po_none (po_some (pv 3))) (pe_slice (r := rSlL K) sl_list (pv 2) (po_some (pe_op op_add (pv 3) pe_int)) po_none))))
     pss_nil) pss_nil)
     (pss_cons (ps_if (pt_cmpR op_eq (pe_ix (r := rIxL K) ix_list (pv 1) pe_int (fun _ _ => rfl)) pe_int (nomark _)) (pss_cons (ps_ret (pe_join pe_str (pe_op op_cat (pe_slice (r := rSlL K) sl_list (pv 2) po_none (po_some (pe_op op_add (pv 3) pe_int))) (pe_slice (r := rSlL K) sl_list (pv 2) (po_some (pv 3)) po_none))))
     pss_nil) pss_nil)
     (pss_cons (ps_if (pt_cmpR op_eq (pe_ix (r := rIxL K) ix_list (pv 1) pe_int (fun _ _ => rfl)) pe_int (nomark _)) (pss_cons (ps_ret (pe_join pe_str (pe_op op_cat (pe_op op_cat (pe_slice (r := rSlL K) sl_list (pv 2) po_none (po_some (pv 3))) (pe_lst (pa_cons pe_str pa_nil))) (pe_slice (r := rSlL K) sl_list (pv 2) (po_some (pv 3)) po_none))))
     pss_nil) pss_nil)
     (pss_cons (ps_if (pt_cmpR op_eq (pe_ix (r := rIxL K) ix_list (pv 1) pe_int (fun _ _ => rfl)) pe_int (nomark _)) (pss_cons (ps_set (i := 4) sc_law_line_changed.nd rfl (by first | exact Or.inl rfl | exact Or.inr rfl) (pe_lst (pa_cons pe_str (pa_cons pe_str (pa_cons pe_str (pa_cons pe_str (pa_cons pe_str (pa_cons pe_str (pa_cons pe_str (pa_cons pe_str (pa_cons pe_str (pa_cons pe_str (pa_cons pe_str pa_nil)))))))))))))
     (pss_cons (ps_ret (pe_join pe_str (pe_op op_cat (pe_lst (pa_cons (pe_ix (r := rIxL K) ix_list (pv 4) (pe_op op_mod (pe_callTy call_int1 (by rfl) T.n_int b_int (pa_cons (pe_ix (r := rIxL K) ix_list (pv 1) pe_int (fun _ _ => rfl)) pa_nil)) pe_int) (fun _ _ => rfl)) pa_nil)) (pe_slice (r := rSlL K) sl_list (pv 2) (po_some pe_int) po_none))))
     pss_nil)) pss_nil)
     (pss_cons (ps_ret (pe_slice (r := C8.rSlX) C8.sl_txt (pv 0) po_none (po_some (pe_op op_mod (pe_callTy call_int1 (by rfl) T.n_int b_int (pa_cons (pe_ix (r := rIxL K) ix_list (pv 1) pe_int (fun _ _ => rfl)) pa_nil)) (pe_op op_add (pe_callB (r := Mw.rLen K) call_len (by rfl) T.n_len b_len (pa_cons (pv 0) pa_nil)) pe_int)))))
     pss_nil))))))), ?_⟩
    have hs : Hs ⟨H, G, E, cl⟩ G [] H := Hs.start hg
    have hm := Wp.ofSp (G0 := G) hm
    try dsimp only at hm
    unfold m_law_line_changed at hm
    refine (show (_ : TS) _ ([some (.str p_text), some v_p_parts, none, none, none] : L2.St) _ from ?_)
    refine w_asg (K := K) (tg_name (i := 2) (R := (rK rS))) (EvN.evK (n_spl (e_var (K := K) (i := 0) (R := rS) (x := p_text) rfl rfl) e_str)) hs hm (fun p_lines vv1 G1 H1 e1 hs hv1 hm => ?_)
    obtain ⟨v_p_lines, rfl, h_p_lines⟩ := hv1
    have h_p_parts := (((rK zI)).mono e1 h_p_parts)
    refine (show (_ : TS) _ ([some (.str p_text), some v_p_parts, some v_p_lines, none, none] : L2.St) _ from ?_)
    refine w_asg (K := K) (tg_name (i := 3) (R := zI)) (e_mod (e_intI (e_ixL (e_KL (e_var (K := K) (i := 1) (R := (rK zI)) (x := p_parts) rfl h_p_parts)) e_int)) (e_len sq_K (e_var (K := K) (i := 2) (R := (rK rS)) (x := p_lines) rfl h_p_lines))) hs hm (fun p_at vv2 G2 H2 e2 hs hv2 hm => ?_)
    obtain ⟨v_p_at, rfl, h_p_at⟩ := hv2
    cases (show v_p_at = V.int p_at from h_p_at)
    have h_p_parts := (((rK zI)).mono e2 h_p_parts)
    have h_p_lines := (((rK rS)).mono e2 h_p_lines)
    refine (show (_ : TS) _ ([some (.str p_text), some v_p_parts, some v_p_lines, some (.int p_at), none] : L2.St) _ from ?_)
    refine w_if (t_test (K := K) (e_eq srI (e_ixL (e_KL (e_var (K := K) (i := 1) (R := (rK zI)) (x := p_parts) rfl h_p_parts)) e_int) e_int)) hs hm (fun G3 H3 e3 hs hm => ?_) (fun G3 H3 e3 hs hm => ?_)
    · have h_p_parts := (((rK zI)).mono e3 h_p_parts)
      have h_p_lines := (((rK rS)).mono e3 h_p_lines)
      exact w_ret0 (K := K) (e_jn e_str (e_KL (EvN.evK (n_cat (EvN.evK (n_slice (e_KL (e_var (K := K) (i := 2) (R := (rK rS)) (x := p_lines) rfl h_p_lines)) o_none (o_some (K := K) (e_var (K := K) (i := 3) (R := zI) (x := p_at) rfl rfl)))) (EvN.evK (n_slice (e_KL (e_var (K := K) (i := 2) (R := (rK rS)) (x := p_lines) rfl h_p_lines)) (o_some (K := K) (e_add (e_var (K := K) (i := 3) (R := zI) (x := p_at) rfl rfl) e_int)) o_none)))))) hs hm fun r v G2 H2 hs2 hr2 hq => hq v G2 H2 hs2.fin hr2
    · have h_p_parts := (((rK zI)).mono e3 h_p_parts)
      have h_p_lines := (((rK rS)).mono e3 h_p_lines)
      refine nx_of ?_
      try dsimp only
      refine (show (_ : TS) _ ([some (.str p_text), some v_p_parts, some v_p_lines, some (.int p_at), none] : L2.St) _ from ?_)
      refine w_if (t_test (K := K) (e_eq srI (e_ixL (e_KL (e_var (K := K) (i := 1) (R := (rK zI)) (x := p_parts) rfl h_p_parts)) e_int) e_int)) hs hm (fun G4 H4 e4 hs hm => ?_) (fun G4 H4 e4 hs hm => ?_)
      · have h_p_parts := (((rK zI)).mono e4 h_p_parts)
        have h_p_lines := (((rK rS)).mono e4 h_p_lines)
        exact w_ret0 (K := K) (e_jn e_str (e_KL (EvN.evK (n_cat (EvN.evK (n_slice (e_KL (e_var (K := K) (i := 2) (R := (rK rS)) (x := p_lines) rfl h_p_lines)) o_none (o_some (K := K) (e_add (e_var (K := K) (i := 3) (R := zI) (x := p_at) rfl rfl) e_int)))) (EvN.evK (n_slice (e_KL (e_var (K := K) (i := 2) (R := (rK rS)) (x := p_lines) rfl h_p_lines)) (o_some (K := K) (e_var (K := K) (i := 3) (R := zI) (x := p_at) rfl rfl)) o_none)))))) hs hm fun r v G2 H2 hs2 hr2 hq => hq v G2 H2 hs2.fin hr2
      · have h_p_parts := (((rK zI)).mono e4 h_p_parts)
        have h_p_lines := (((rK rS)).mono e4 h_p_lines)
        refine nx_of ?_
        try dsimp only
        refine (show (_ : TS) _ ([some (.str p_text), some v_p_parts, some v_p_lines, some (.int p_at), none] : L2.St) _ from ?_)
        refine w_if (t_test (K := K) (e_eq srI (e_ixL (e_KL (e_var (K := K) (i := 1) (R := (rK zI)) (x := p_parts) rfl h_p_parts)) e_int) e_int)) hs hm (fun G5 H5 e5 hs hm => ?_) (fun G5 H5 e5 hs hm => ?_)
        · have h_p_parts := (((rK zI)).mono e5 h_p_parts)
          have h_p_lines := (((rK rS)).mono e5 h_p_lines)
          exact w_ret0 (K := K) (e_jn e_str (e_KL (EvN.evK (n_cat (EvN.evK (n_cat (EvN.evK (n_slice (e_KL (e_var (K := K) (i := 2) (R := (rK rS)) (x := p_lines) rfl h_p_lines)) o_none (o_some (K := K) (e_var (K := K) (i := 3) (R := zI) (x := p_at) rfl rfl)))) (EvN.evK (e_lst (l_cons e_str l_nil) (by decide))))) (EvN.evK (n_slice (e_KL (e_var (K := K) (i := 2) (R := (rK rS)) (x := p_lines) rfl h_p_lines)) (o_some (K := K) (e_var (K := K) (i := 3) (R := zI) (x := p_at) rfl rfl)) o_none)))))) hs hm fun r v G2 H2 hs2 hr2 hq => hq v G2 H2 hs2.fin hr2
        · have h_p_parts := (((rK zI)).mono e5 h_p_parts)
          have h_p_lines := (((rK rS)).mono e5 h_p_lines)
          refine nx_of ?_
          try dsimp only
          refine (show (_ : TS) _ ([some (.str p_text), some v_p_parts, some v_p_lines, some (.int p_at), none] : L2.St) _ from ?_)
          refine w_if (t_test (K := K) (e_eq srI (e_ixL (e_KL (e_var (K := K) (i := 1) (R := (rK zI)) (x := p_parts) rfl h_p_parts)) e_int) e_int)) hs hm (fun G6 H6 e6 hs hm => ?_) (fun G6 H6 e6 hs hm => ?_)
          · have h_p_parts := (((rK zI)).mono e6 h_p_parts)
            have h_p_lines := (((rK rS)).mono e6 h_p_lines)
            refine w_asg (K := K) (tg_name (i := 4) (R := (rK rS))) (EvN.evK (e_lst (l_cons e_str (l_cons e_str (l_cons e_str (l_cons e_str (l_cons e_str (l_cons e_str (l_cons e_str (l_cons e_str (l_cons e_str (l_cons e_str (l_cons e_str l_nil))))))))))) (by decide))) hs hm (fun p_heads vv7 G7 H7 e7 hs hv7 hm => ?_)
            obtain ⟨v_p_heads, rfl, h_p_heads⟩ := hv7
            have h_p_parts := (((rK zI)).mono e7 h_p_parts)
            have h_p_lines := (((rK rS)).mono e7 h_p_lines)
            refine (show (_ : TS) _ ([some (.str p_text), some v_p_parts, some v_p_lines, some (.int p_at), some v_p_heads] : L2.St) _ from ?_)
            exact w_ret0 (K := K) (e_jn e_str (e_KL (EvN.evK (n_cat (EvN.evK (e_lst (l_cons (e_ixL (e_KL (e_var (K := K) (i := 4) (R := (rK rS)) (x := p_heads) rfl h_p_heads)) (e_mod (e_intI (e_ixL (e_KL (e_var (K := K) (i := 1) (R := (rK zI)) (x := p_parts) rfl h_p_parts)) e_int)) e_int)) l_nil) (by decide))) (EvN.evK (n_slice (e_KL (e_var (K := K) (i := 2) (R := (rK rS)) (x := p_lines) rfl h_p_lines)) (o_some (K := K) e_int) o_none)))))) hs hm fun r v G2 H2 hs2 hr2 hq => hq v G2 H2 hs2.fin hr2
          · have h_p_parts := (((rK zI)).mono e6 h_p_parts)
            have h_p_lines := (((rK rS)).mono e6 h_p_lines)
            refine nx_of ?_
            try dsimp only
            refine (show (_ : TS) _ ([some (.str p_text), some v_p_parts, some v_p_lines, some (.int p_at), none] : L2.St) _ from ?_)
            exact w_ret0 (K := K) (e_slS (e_var (K := K) (i := 0) (R := rS) (x := p_text) rfl rfl) o_none (o_some (K := K) (e_mod (e_intI (e_ixL (e_KL (e_var (K := K) (i := 1) (R := (rK zI)) (x := p_parts) rfl h_p_parts)) e_int)) (e_add (e_lenS (e_var (K := K) (i := 0) (R := rS) (x := p_text) rfl rfl)) e_int)))) hs hm fun r v G2 H2 hs2 hr2 hq => hq v G2 H2 hs2.fin hr2

theorem ok_law_changed {P : Program} {w : World} {K : PySem.W.Frag} {mg : Str → Option Value} {base : Heap} {cl : Nat → Addr} {fa : Addr} {fd : FuncData} (F : Fun K "_law_changed" "_law_changed" s_law_changed fa fd) (T : Txt K mg cl) (C_law_parts : Cal P w K mg base "_law_parts" 1 ["cell", "sizes"] (spP K cl (rsC zI (rs1 (rK zI))) (rK zI) (fun a => m_law_parts (a.1) (a.2)))) (C_law_sign_changed : Cal P w K mg base "_law_sign_changed" 1 ["text", "parts"] (spP K cl (rsC rS (rs1 (rK zI))) rS (fun a => m_law_sign_changed (a.1) (a.2)))) (C_law_word_changed : Cal P w K mg base "_law_word_changed" 1 ["text", "parts"] (spP K cl (rsC rS (rs1 (rK zI))) rS (fun a => m_law_word_changed (a.1) (a.2)))) (C_law_line_changed : Cal P w K mg base "_law_line_changed" 1 ["text", "parts"] (spP K cl (rsC rS (rs1 (rK zI))) rS (fun a => m_law_line_changed (a.1) (a.2)))) :
    FnOk P w K mg base (L2.CX P w) 2 fa fd ["text", "cell"] (spP K cl (rsC rS (rs1 zI)) rS (fun a => m_law_changed (a.1) (a.2))) := by
  refine F.okX sc_law_changed (fun vs H Q E h => ?_) (fun cdv A outer s H vs Q E hr h => ?_)
  · obtain ⟨G, a, _, hS, _⟩ := h
    exact (lnC ln1) _ _ _ _ hS
  · obtain ⟨G, ⟨p_text, p_cell⟩, hg, hS, hm⟩ := h
    obtain ⟨v_p_text, _, rfl, h_p_text, v_p_cell, rfl, h_p_cell⟩ := hS
    cases (show v_p_text = V.str p_text from h_p_text)
    cases (show v_p_cell = V.int p_cell from h_p_cell)
    have tk : Takes (cxOf (L2.CX P w) P w K mg base N_law_changed "_law_changed" (defScope s_law_changed) fa cdv A outer s H E) (fun cls d _ H => E cls d H) := takes_of rfl rfl rfl rfl
    refine ⟨_, (pss_cons (ps_set (i := 2) sc_law_changed.nd rfl (by first | exact Or.inl rfl | exact Or.inr rfl) (pe_call (E := E) C_law_parts.ok (hr.mono (by decide)) rfl C_law_parts.mgx C_law_parts.kp C_law_parts.bd .nil (passes_call tk (fun _ _ _ _ h => h)) (pa_cons (pv 1) (pa_cons (pe_op op_cat (pe_lst (pa_cons pe_int pa_nil)) (pe_op op_rep (pe_lst (pa_cons pe_int (pa_cons pe_int (pa_cons pe_int (pa_cons pe_int (pa_cons pe_int pa_nil)))))) pe_int)) pa_nil))))
     (pss_cons (ps_for (passes_of rfl) rfl (pi_range1 rfl T.n_range (pa_cons (pe_op op_add pe_int (pe_ix (r := rIxL K) ix_list (pv 2) pe_int (fun _ _ => rfl))) pa_nil)) (pg_name (i := 3) sc_law_changed.nd rfl (by first | exact Or.inl rfl | exact Or.inr rfl)) (pss_cons (ps_set (i := 4) sc_law_changed.nd rfl (by first | exact Or.inl rfl | exact Or.inr rfl) (pe_slice (r := rSlL K) sl_list (pv 2) (po_some (pe_op op_add pe_int (pe_op op_mul pe_int (pv 3)))) (po_some (pe_op op_add pe_int (pe_op op_mul pe_int (pv 3))))))
     (pss_cons (ps_if (pt_cmpR op_lt (pe_ix (r := rIxL K) ix_list (pv 4) pe_int (fun _ _ => rfl)) pe_int (nomark _)) (pss_cons (ps_set (i := 0) sc_law_changed.nd rfl (by first | exact Or.inl rfl | exact Or.inr rfl) (pe_call (E := E) C_law_sign_changed.ok (hr.mono (by decide)) rfl C_law_sign_changed.mgx C_law_sign_changed.kp C_law_sign_changed.bd .nil (passes_call tk (fun _ _ _ _ h => h)) (pa_cons (pv 0) (pa_cons (pv 4) pa_nil))))
     pss_nil) (pss_cons (ps_if (pt_cmpR op_lt (pe_ix (r := rIxL K) ix_list (pv 4) pe_int (fun _ _ => rfl)) pe_int (nomark _)) (pss_cons (ps_set (i := 0) sc_law_changed.nd rfl (by first | exact Or.inl rfl | exact Or.inr rfl) (pe_call (E := E) C_law_word_changed.ok (hr.mono (by decide)) rfl C_law_word_changed.mgx C_law_word_changed.kp C_law_word_changed.bd .nil (passes_call tk (fun _ _ _ _ h => h)) (pa_cons (pv 0) (pa_cons (pv 4) pa_nil))))
     pss_nil) (pss_cons (ps_set (i := 0) sc_law_changed.nd rfl (by first | exact Or.inl rfl | exact Or.inr rfl) (pe_call (E := E) C_law_line_changed.ok (hr.mono (by decide)) rfl C_law_line_changed.mgx C_law_line_changed.kp C_law_line_changed.bd .nil (passes_call tk (fun _ _ _ _ h => h)) (pa_cons (pv 0) (pa_cons (pv 4) pa_nil))))
     pss_nil))
     pss_nil))
     pss_nil)))
     (pss_cons (ps_ret (pv 0))
     pss_nil))), ?_⟩
    have hs : Hs ⟨H, G, E, cl⟩ G [] H := Hs.start hg
    have hm := Wp.ofSp (G0 := G) hm
    try dsimp only at hm
    unfold m_law_changed at hm
    refine (show (_ : TS) _ ([some (.str p_text), some (.int p_cell), none, none, none] : L2.St) _ from ?_)
    refine w_asg (K := K) (tg_name (i := 2) (R := (rK zI))) (e_call (fm := ⟨H, G, E, cl⟩) (a_cons (e_var (K := K) (i := 1) (R := zI) (x := p_cell) rfl rfl) (a_one (EvN.evK (n_cat (EvN.evK (e_lst (l_cons e_int l_nil) (by decide))) (EvN.evK (n_rep (EvN.evK (e_lst (l_cons e_int (l_cons e_int (l_cons e_int (l_cons e_int (l_cons e_int l_nil))))) (by decide))) e_int))))))) hs hm (fun p_parts vv1 G1 H1 e1 hs hv1 hm => ?_)
    obtain ⟨v_p_parts, rfl, h_p_parts⟩ := hv1
    refine (show (_ : TS) _ ([some (.str p_text), some (.int p_cell), some v_p_parts, none, none] : L2.St) _ from ?_)
    refine w_forM (K := K) (fun (p_text : Str) (σ : L2.St) (G : Hp) (O : Own) => ∃ (d_3 : Option V) (d_4 : Option V), σ = [some (.str p_text), some (.int p_cell), some v_p_parts, d_3, d_4] ∧ O = []) (i_rng1 (e_add e_int (e_ixL (e_KL (e_var (K := K) (i := 2) (R := (rK zI)) (x := p_parts) rfl h_p_parts)) e_int))) (fun _ _ _ _ _ _ h => nomatch h) (tg_name (i := 3) (R := zI)) hs hm ⟨none, none, rfl, rfl⟩ (fun p_k p_text σ_ G1_2 G2 O_ H2 vv2 D2 Qb2 e2 w_ e12 hs hv2 E2 hm => ?_) (fun p_text σ_ G1_2 G2 O_ H2 e2 w_ e12 hs hm => ?_)
    · obtain ⟨d_3, d_4, rfl, rfl⟩ := w_
      have h_p_parts := (((rK zI)).mono e2 h_p_parts)
      obtain ⟨v_p_k, rfl, h_p_k⟩ := hv2
      cases (show v_p_k = V.int p_k from h_p_k)
      have b2 := Same.refl G2
      refine (show (_ : TS) _ ([some (.str p_text), some (.int p_cell), some v_p_parts, some (.int p_k), d_4] : L2.St) _ from ?_)
      unfold m_law_changed_b9 at hm
      try dsimp only at hm
      refine w_asg (K := K) (tg_name (i := 4) (R := (rK zI))) (EvN.evK (n_slice (e_KL (e_var (K := K) (i := 2) (R := (rK zI)) (x := p_parts) rfl h_p_parts)) (o_some (K := K) (e_add e_int (e_mul e_int (e_var (K := K) (i := 3) (R := zI) (x := p_k) rfl rfl)))) (o_some (K := K) (e_add e_int (e_mul e_int (e_var (K := K) (i := 3) (R := zI) (x := p_k) rfl rfl)))))) hs hm (fun p_draw vv3 G3 H3 e3 hs hv3 hm => ?_)
      obtain ⟨v_p_draw, rfl, h_p_draw⟩ := hv3
      have h_p_parts := (((rK zI)).mono e3 h_p_parts)
      have b2 := Same.trans b2 e3
      refine (show (_ : TS) _ ([some (.str p_text), some (.int p_cell), some v_p_parts, some (.int p_k), some v_p_draw] : L2.St) _ from ?_)
      refine w_if (t_test (K := K) (e_cmp (p := fun i j => decide (i < j)) (e_ixL (e_KL (e_var (K := K) (i := 4) (R := (rK zI)) (x := p_draw) rfl h_p_draw)) e_int) e_int)) hs hm (fun G4 H4 e4 hs hm => ?_) (fun G4 H4 e4 hs hm => ?_)
      · have h_p_parts := (((rK zI)).mono e4 h_p_parts)
        have h_p_draw := (((rK zI)).mono e4 h_p_draw)
        have b2 := Same.trans b2 e4
        refine w_asg (K := K) (tg_name (i := 0) (R := rS)) (e_call (fm := ⟨H, G, E, cl⟩) (a_cons (e_var (K := K) (i := 0) (R := rS) (x := p_text) rfl rfl) (a_one (e_var (K := K) (i := 4) (R := (rK zI)) (x := p_draw) rfl h_p_draw)))) hs hm (fun p_text vv5 G5 H5 e5 hs hv5 hm => ?_)
        obtain ⟨v_p_text, rfl, h_p_text⟩ := hv5
        cases (show v_p_text = V.str p_text from h_p_text)
        have h_p_parts := (((rK zI)).mono e5 h_p_parts)
        have h_p_draw := (((rK zI)).mono e5 h_p_draw)
        have b2 := Same.trans b2 e5
        refine (show (_ : TS) _ ([some (.str p_text), some (.int p_cell), some v_p_parts, some (.int p_k), some v_p_draw] : L2.St) _ from ?_)
        refine nx_of ?_
        try dsimp only
        refine (show (_ : TS) _ ([some (.str p_text), some (.int p_cell), some v_p_parts, some (.int p_k), some v_p_draw] : L2.St) _ from ?_)
        exact E2.nx p_text _ _ _ _ _ b2 ⟨some (.int p_k), some v_p_draw, rfl, rfl⟩ (Same.refl _) hs hm.out
      · have h_p_parts := (((rK zI)).mono e4 h_p_parts)
        have h_p_draw := (((rK zI)).mono e4 h_p_draw)
        have b2 := Same.trans b2 e4
        refine w_if (t_test (K := K) (e_cmp (p := fun i j => decide (i < j)) (e_ixL (e_KL (e_var (K := K) (i := 4) (R := (rK zI)) (x := p_draw) rfl h_p_draw)) e_int) e_int)) hs hm (fun G6 H6 e6 hs hm => ?_) (fun G6 H6 e6 hs hm => ?_)
        · have h_p_parts := (((rK zI)).mono e6 h_p_parts)
          have h_p_draw := (((rK zI)).mono e6 h_p_draw)
          have b2 := Same.trans b2 e6
          refine w_asg (K := K) (tg_name (i := 0) (R := rS)) (e_call (fm := ⟨H, G, E, cl⟩) (a_cons (e_var (K := K) (i := 0) (R := rS) (x := p_text) rfl rfl) (a_one (e_var (K := K) (i := 4) (R := (rK zI)) (x := p_draw) rfl h_p_draw)))) hs hm (fun p_text vv7 G7 H7 e7 hs hv7 hm => ?_)
          obtain ⟨v_p_text, rfl, h_p_text⟩ := hv7
          cases (show v_p_text = V.str p_text from h_p_text)
          have h_p_parts := (((rK zI)).mono e7 h_p_parts)
          have h_p_draw := (((rK zI)).mono e7 h_p_draw)
          have b2 := Same.trans b2 e7
          refine (show (_ : TS) _ ([some (.str p_text), some (.int p_cell), some v_p_parts, some (.int p_k), some v_p_draw] : L2.St) _ from ?_)
          refine nx_of ?_
          try dsimp only
          refine (show (_ : TS) _ ([some (.str p_text), some (.int p_cell), some v_p_parts, some (.int p_k), some v_p_draw] : L2.St) _ from ?_)
          refine nx_of ?_
          try dsimp only
          refine (show (_ : TS) _ ([some (.str p_text), some (.int p_cell), some v_p_parts, some (.int p_k), some v_p_draw] : L2.St) _ from ?_)
          exact E2.nx p_text _ _ _ _ _ b2 ⟨some (.int p_k), some v_p_draw, rfl, rfl⟩ (Same.refl _) hs hm.out
        · have h_p_parts := (((rK zI)).mono e6 h_p_parts)
          have h_p_draw := (((rK zI)).mono e6 h_p_draw)
          have b2 := Same.trans b2 e6
          refine w_asg (K := K) (tg_name (i := 0) (R := rS)) (e_call (fm := ⟨H, G, E, cl⟩) (a_cons (e_var (K := K) (i := 0) (R := rS) (x := p_text) rfl rfl) (a_one (e_var (K := K) (i := 4) (R := (rK zI)) (x := p_draw) rfl h_p_draw)))) hs hm (fun p_text vv8 G8 H8 e8 hs hv8 hm => ?_)
          obtain ⟨v_p_text, rfl, h_p_text⟩ := hv8
          cases (show v_p_text = V.str p_text from h_p_text)
          have h_p_parts := (((rK zI)).mono e8 h_p_parts)
          have h_p_draw := (((rK zI)).mono e8 h_p_draw)
          have b2 := Same.trans b2 e8
          refine (show (_ : TS) _ ([some (.str p_text), some (.int p_cell), some v_p_parts, some (.int p_k), some v_p_draw] : L2.St) _ from ?_)
          refine nx_of ?_
          try dsimp only
          refine (show (_ : TS) _ ([some (.str p_text), some (.int p_cell), some v_p_parts, some (.int p_k), some v_p_draw] : L2.St) _ from ?_)
          refine nx_of ?_
          try dsimp only
          refine (show (_ : TS) _ ([some (.str p_text), some (.int p_cell), some v_p_parts, some (.int p_k), some v_p_draw] : L2.St) _ from ?_)
          exact E2.nx p_text _ _ _ _ _ b2 ⟨some (.int p_k), some v_p_draw, rfl, rfl⟩ (Same.refl _) hs hm.out
    · obtain ⟨d_3, d_4, rfl, rfl⟩ := w_
      have h_p_parts := (((rK zI)).mono e2 h_p_parts)
      refine (show (_ : TS) _ ([some (.str p_text), some (.int p_cell), some v_p_parts, d_3, d_4] : L2.St) _ from ?_)
      try dsimp only at hm
      exact w_ret0 (K := K) (e_var (K := K) (i := 0) (R := rS) (x := p_text) rfl rfl) hs hm fun r v G2 H2 hs2 hr2 hq => hq v G2 H2 hs2.fin hr2

theorem ok_law_right_text {P : Program} {w : World} {K : PySem.W.Frag} {mg : Str → Option Value} {base : Heap} {cl : Nat → Addr} {fa : Addr} {fd : FuncData} (F : Fun K "_law_right_text" "_law_right_text" s_law_right_text fa fd) (T : Txt K mg cl) (C_law_reading : Cal P w K mg base "_law_reading" 2 ["text"] (spP K cl (rs1 rS) (rU zI (rP (rsC zI (rsC zI (rs1 (rT (rT (rP (rsC zI (rs1 zI)))))))))) (fun a => m_law_reading a))) (C_law_same_table : Cal P w K mg base "_law_same_table" 2 ["actual", "expected"] (spP K cl (rsC (rP (rsC zI (rsC zI (rs1 (rT (rT (rP (rsC zI (rs1 zI))))))))) (rs1 (rP (rsC zI (rsC zI (rs1 (rT (rT (rP (rsC zI (rs1 zI))))))))))) rB (fun a => m_law_same_table (a.1) (a.2)))) (C_read_table : Cal P w K mg base "read_table" 3 ["text"] (spP K cl (rs1 rS) (rP (rsC zI (rsC zI (rs1 (rT (rT (rP (rsC zI (rs1 zI))))))))) (fun a => m_read_table a))) (XI0 : XIn P w K mg base (cl 0) 1 "line" "line") (A_law_is_integer : CalA P w K mg base "_law_is_integer" 1 ["actual"] (spP K cl (rs1 (rO zI)) rB (fun a => m_law_is_integer a))) :
    FnOk P w K mg base (L2.CX P w) 4 fa fd ["text"] (spP K cl (rs1 rS) rB (fun a => m_law_right_text a)) := by
  refine F.okX sc_law_right_text (fun vs H Q E h => ?_) (fun cdv A outer s H vs Q E hr h => ?_)
  · obtain ⟨G, a, _, hS, _⟩ := h
    exact ln1 _ _ _ _ hS
  · obtain ⟨G, p_text, hg, hS, hm⟩ := h
    obtain ⟨v_p_text, rfl, h_p_text⟩ := hS
    cases (show v_p_text = V.str p_text from h_p_text)
    have tk : Takes (cxOf (L2.CX P w) P w K mg base N_law_right_text "_law_right_text" (defScope s_law_right_text) fa cdv A outer s H E) (fun cls d _ H => E cls d H) := takes_of rfl rfl rfl rfl
    refine ⟨_, (pss_cons (ps_set (i := 1) sc_law_right_text.nd rfl (by first | exact Or.inl rfl | exact Or.inr rfl) (pe_call (E := E) C_law_reading.ok (hr.mono (by decide)) rfl C_law_reading.mgx C_law_reading.kp C_law_reading.bd .nil (passes_call tk (fun _ _ _ _ h => h)) (pa_cons (pv 0) pa_nil)))
     (pss_cons (ps_if (pt_val (pe_callB (r := rIsi K) call_isi (by rfl) T.n_isinstance b_isinstance (pa_cons (pv 1) (pa_cons (pe_bltn (v := .ty "tuple") (by rfl) T.n_tuple b_tuple rfl) pa_nil)))) (pss_cons (ps_ret (pe_call (E := E) C_law_same_table.ok (hr.mono (by decide)) rfl C_law_same_table.mgx C_law_same_table.kp C_law_same_table.bd .nil (passes_call tk (fun _ _ _ _ h => h)) (pa_cons (pe_call (E := E) C_read_table.ok (hr.mono (by decide)) rfl C_read_table.mgx C_read_table.kp C_read_table.bd .nil (passes_call tk (fun _ _ _ _ h => h)) (pa_cons (pv 0) pa_nil)) (pa_cons (pv 1) pa_nil))))
     pss_nil) pss_nil)
     (pss_cons (show PS _ _ (tTry _ K _ 2 _ _) from ps_try_as (i := 2) rfl rfl sc_law_right_text.nd rfl rfl (c := .ref (cl 1)) ⟨rfl, by decide, .inl T.g_1⟩ tk (fun W3 pn xe tkW3 hp => (pss_cons (ps_expr (pe_callS (E := WE W3) C_read_table.ok (hr.mono (by decide)) rfl C_read_table.mgx C_read_table.kp C_read_table.bd (fun σ => passAt tkW3 σ) (pa_cons (pv 0) pa_nil)))
     pss_nil)) (tSu1_ok (C := cl 0) (fun a3 oe dd3 pn hz3 hf3 => (pss_cons (ps_if (PW.pt (pw_or (pt_not (pt_val (pe_callB (r := rIsEd K (cl 0) a3 dd3) (call_isEd T.ec_0 hz3 hf3) (by rfl) T.n_isinstance b_isinstance (pa_cons (pv 2) (pa_cons (pe_glob (v := .ref (cl 0)) rfl T.g_0 rfl) pa_nil))))) (pw_or1 (pt_not (pt_val (pe_callB (r := rIsEd K (cl 0) a3 dd3) (call_isEd T.ec_0 hz3 hf3) (by rfl) T.n_isinstance b_isinstance (pa_cons (pv 2) (pa_cons (pe_bltn (v := .ty "ValueError") (by rfl) T.n_ValueError b_ValueError rfl) pa_nil)))))))) (pss_cons (ps_ret pe_bl)
     pss_nil) pss_nil)
     (pss_cons (ps_ret (pe_and (pe_callA (E := fun _ => E) A_law_is_integer.ok (roomS (hr.mono (by decide))) (by exact rfl) A_law_is_integer.mgx A_law_is_integer.kp A_law_is_integer.bd (pa_cons (show PE _ _ (tXf _ _ _ _ _ _) from pe_xf (xfC T.ec_0) XI0.no hz3 hf3 (pv 2)) pa_nil)) (pe_one (pe_cmpR op_eq (show PE _ _ (tXf _ _ _ _ _ _) from pe_xf (xfC T.ec_0) XI0.no hz3 hf3 (pv 2)) (pv 1) (nomark _)))))
     pss_nil)))))
     (pss_cons (ps_ret pe_bl)
     pss_nil)))), ?_⟩
    have hs : Hs ⟨H, G, E, cl⟩ G [] H := Hs.start hg
    have hm := Wp.ofSp (G0 := G) hm
    try dsimp only at hm
    unfold m_law_right_text at hm
    refine (show (_ : TS) _ ([some (.str p_text), none, none] : L2.St) _ from ?_)
    refine w_asg (K := K) (tg_name (i := 1) (R := (rU zI (rP (rsC zI (rsC zI (rs1 (rT (rT (rP (rsC zI (rs1 zI)))))))))))) (e_call (fm := ⟨H, G, E, cl⟩) (a_one (e_var (K := K) (i := 0) (R := rS) (x := p_text) rfl rfl))) hs hm (fun p_due vv1 G1 H1 e1 hs hv1 hm => ?_)
    obtain ⟨v_p_due, rfl, h_p_due⟩ := hv1
    refine (show (_ : TS) _ ([some (.str p_text), some v_p_due, none] : L2.St) _ from ?_)
    refine w_if (t_val (K := K) (e_isi (g := isr) (ty_U ty_I ty_P) (isi_r (by decide +kernel) (by decide +kernel)) (e_var (K := K) (i := 1) (R := (rU zI (rP (rsC zI (rsC zI (rs1 (rT (rT (rP (rsC zI (rs1 zI))))))))))) (x := p_due) rfl h_p_due))) hs hm (fun G2 H2 e2 hs hm => ?_) (fun G2 H2 e2 hs hm => ?_)
    · have h_p_due := (((rU zI (rP (rsC zI (rsC zI (rs1 (rT (rT (rP (rsC zI (rs1 zI))))))))))).mono e2 h_p_due)
      exact w_ret0 (K := K) (e_call (fm := ⟨H, G, E, cl⟩) (a_cons (e_call (fm := ⟨H, G, E, cl⟩) (a_one (e_var (K := K) (i := 0) (R := rS) (x := p_text) rfl rfl))) (a_one (e_getr (R := zI) (S := (rP (rsC zI (rsC zI (rs1 (rT (rT (rP (rsC zI (rs1 zI)))))))))) (e_var (K := K) (i := 1) (R := (rU zI (rP (rsC zI (rsC zI (rs1 (rT (rT (rP (rsC zI (rs1 zI))))))))))) (x := p_due) rfl h_p_due))))) hs hm fun r v G2 H2 hs2 hr2 hq => hq v G2 H2 hs2.fin hr2
    · have h_p_due := (((rU zI (rP (rsC zI (rsC zI (rs1 (rT (rT (rP (rsC zI (rs1 zI))))))))))).mono e2 h_p_due)
      refine nx_of ?_
      try dsimp only
      refine (show (_ : TS) _ ([some (.str p_text), some v_p_due, none] : L2.St) _ from ?_)
      refine w_tryL (K := K) (fld := "line") hs hm T.ex_0 (fun y3 a3 dd3 H3 hs hd3 hm => ?_) (fun D3 Qb3 W3 nx3 hs hm => ?_) (fun G3 H3 e3 hs hm => ?_)
      · refine (show (_ : TS) _ ([some (.str p_text), some v_p_due, some (.ref a3)] : L2.St) _ from ?_)
        have hsT3 := hs
        have hm := hm.inner hs
        replace hs := hs.inner
        try dsimp only at hm
        refine w_if (t_or (t_not (t_val (K := K) (e_isEd (a := a3) (C := cl 0) (dd := dd3) (c := .ref (cl 0)) rfl (fun u e => e) T.kit_0_0 hd3))) (t_not (t_val (K := K) (e_isEd (a := a3) (C := cl 0) (dd := dd3) (c := .ty "ValueError") rfl (fun u e => e) T.kv_0 hd3)))) hs hm (fun G5 H5 e5 hs hm => ?_) (fun G5 H5 e5 hs hm => ?_)
        · have h_p_due := (((rU zI (rP (rsC zI (rsC zI (rs1 (rT (rT (rP (rsC zI (rs1 zI))))))))))).mono e5 h_p_due)
          exact w_ret0 (K := K) e_bl hs hm fun r v G2 H2 hs2 hr2 hq => hq v G2 H2 (hsT3.stp hs2.fin).fin hr2
        · have h_p_due := (((rU zI (rP (rsC zI (rsC zI (rs1 (rT (rT (rP (rsC zI (rs1 zI))))))))))).mono e5 h_p_due)
          refine nx_of ?_
          try dsimp only
          refine (show (_ : TS) _ ([some (.str p_text), some v_p_due, some (.ref a3)] : L2.St) _ from ?_)
          exact w_ret0 (K := K) (e_and (e_callS (fm := ⟨_, _, E, cl⟩) rfl (a_one (e_some nn_I (e_xf (a := a3) (C := cl 0) (dd := dd3) rfl hd3)))) (e_eq srI (e_xf (a := a3) (C := cl 0) (dd := dd3) rfl hd3) (e_getl (R := zI) (S := (rP (rsC zI (rsC zI (rs1 (rT (rT (rP (rsC zI (rs1 zI)))))))))) (e_var (K := K) (i := 1) (R := (rU zI (rP (rsC zI (rsC zI (rs1 (rT (rT (rP (rsC zI (rs1 zI))))))))))) (x := p_due) rfl h_p_due)))) hs hm fun r v G2 H2 hs2 hr2 hq => hq v G2 H2 (hsT3.stp hs2.fin).fin hr2
      · have b3 := Hs.sr hs
        refine w_drop (K := K) (e_callS (fm := ⟨_, _, WE W3 [some (.str p_text), some v_p_due, none], cl⟩) rfl (a_one (e_var (K := K) (i := 0) (R := rS) (x := p_text) rfl rfl))) hs hm (fun x4 G4 H4 e4 hs hm => ?_)
        have h_p_due := (((rU zI (rP (rsC zI (rsC zI (rs1 (rT (rT (rP (rsC zI (rs1 zI))))))))))).mono e4 h_p_due)
        have b3 := Same.trans b3 e4
        exact nx3 _ _ b3 hs hm.out
      · have h_p_due := (((rU zI (rP (rsC zI (rsC zI (rs1 (rT (rT (rP (rsC zI (rs1 zI))))))))))).mono e3 h_p_due)
        refine (show (_ : TS) _ ([some (.str p_text), some v_p_due, none] : L2.St) _ from ?_)
        try dsimp only at hm
        exact w_ret0 (K := K) e_bl hs hm fun r v G2 H2 hs2 hr2 hq => hq v G2 H2 hs2.fin hr2

theorem ok_law_large {P : Program} {w : World} {K : PySem.W.Frag} {mg : Str → Option Value} {base : Heap} {cl : Nat → Addr} {fa : Addr} {fd : FuncData} (F : Fun K "_law_large" "_law_large" s_law_large fa fd) (T : Txt K mg cl)  :
    FnOk P w K mg base (L2.CX P w) 1 fa fd ["parts"] (spP K cl (rs1 (rK zI)) (rP (rsC zI (rsC zI (rs1 (rT (rT (rP (rsC zI (rs1 zI))))))))) (fun a => m_law_large a)) := by
  refine F.okX sc_law_large (fun vs H Q E h => ?_) (fun cdv A outer s H vs Q E hr h => ?_)
  · obtain ⟨G, a, _, hS, _⟩ := h
    exact ln1 _ _ _ _ hS
  · obtain ⟨G, p_parts, hg, hS, hm⟩ := h
    obtain ⟨v_p_parts, rfl, h_p_parts⟩ := hS
    refine ⟨_, (pss_cons (ps_set (i := 1) sc_law_large.nd rfl (by first | exact Or.inl rfl | exact Or.inr rfl) (pe_ix (r := rIxL K) ix_list (pe_lst (pa_cons pe_int (pa_cons pe_int (pa_cons pe_int pa_nil)))) (pe_ix (r := rIxL K) ix_list (pv 0) pe_int (fun _ _ => rfl)) (fun _ _ => rfl)))
     (pss_cons (ps_set (i := 2) sc_law_large.nd rfl (by first | exact Or.inl rfl | exact Or.inr rfl) (pe_ix (r := rIxL K) ix_list (pe_lst (pa_cons pe_int (pa_cons pe_int (pa_cons pe_int pa_nil)))) (pe_ix (r := rIxL K) ix_list (pv 0) pe_int (fun _ _ => rfl)) (fun _ _ => rfl)))
     (pss_cons (ps_set (i := 3) sc_law_large.nd rfl (by first | exact Or.inl rfl | exact Or.inr rfl) (pe_lst pa_nil))
     (pss_cons (ps_for (passes_of rfl) rfl (pi_range1 rfl T.n_range (pa_cons (pv 2) pa_nil)) (pg_name (i := 4) sc_law_large.nd rfl (by first | exact Or.inl rfl | exact Or.inr rfl)) (pss_cons (ps_set (i := 5) sc_law_large.nd rfl (by first | exact Or.inl rfl | exact Or.inr rfl) (pe_lst pa_nil))
     (pss_cons (ps_for (passes_of rfl) rfl (pi_range1 rfl T.n_range (pa_cons (pe_op op_shl pe_int (pv 1)) pa_nil)) (pg_name (i := 6) sc_law_large.nd rfl (by first | exact Or.inl rfl | exact Or.inr rfl)) (pss_cons (ps_set (i := 7) sc_law_large.nd rfl (by first | exact Or.inl rfl | exact Or.inr rfl) (pe_op op_add (pe_op op_add (pe_ix (r := rIxL K) ix_list (pv 0) pe_int (fun _ _ => rfl)) (pe_op op_mul (pv 4) (pe_ix (r := rIxL K) ix_list (pv 0) pe_int (fun _ _ => rfl)))) (pe_op op_mul (pv 6) (pe_ix (r := rIxL K) ix_list (pv 0) pe_int (fun _ _ => rfl)))))
     (pss_cons (ps_expr (pe_bm PySem.F.plainAttrs_list PySem.F.slot_list_append PySem.F.type_list_append mt_append (pv 5) (pa_cons (pe_tup (pa_cons (pe_op op_mod (pe_callTy call_int1 (by rfl) T.n_int b_int (pa_cons (pv 7) pa_nil)) (pv 2)) (pa_cons (pe_op op_mod (pe_callTy call_int1 (by rfl) T.n_int b_int (pa_cons (pe_op op_fdiv (pv 7) pe_int) pa_nil)) pe_int) pa_nil))) pa_nil)))
     pss_nil)))
     (pss_cons (ps_expr (pe_bm PySem.F.plainAttrs_list PySem.F.slot_list_append PySem.F.type_list_append mt_append (pv 3) (pa_cons (pe_callTy (r := rTu K) call_tuple_of (by rfl) T.n_tuple b_tuple (pa_cons (pv 5) pa_nil)) pa_nil)))
     pss_nil))))
     (pss_cons (ps_ret (pe_tup (pa_cons (pv 1) (pa_cons pe_int (pa_cons (pe_callTy (r := rTu K) call_tuple_of (by rfl) T.n_tuple b_tuple (pa_cons (pv 3) pa_nil)) pa_nil)))))
     pss_nil))))), ?_⟩
    have hs : Hs ⟨H, G, E, cl⟩ G [] H := Hs.start hg
    have hm := Wp.ofSp (G0 := G) hm
    try dsimp only at hm
    unfold m_law_large at hm
    refine (show (_ : TS) _ ([some v_p_parts, none, none, none, none, none, none, none] : L2.St) _ from ?_)
    refine w_asg (K := K) (tg_name (i := 1) (R := zI)) (e_ixL (e_KL (EvN.evK (e_lst (l_cons e_int (l_cons e_int (l_cons e_int l_nil))) (by decide)))) (e_ixL (e_KL (e_var (K := K) (i := 0) (R := (rK zI)) (x := p_parts) rfl h_p_parts)) e_int)) hs hm (fun p_inputs vv1 G1 H1 e1 hs hv1 hm => ?_)
    obtain ⟨v_p_inputs, rfl, h_p_inputs⟩ := hv1
    cases (show v_p_inputs = V.int p_inputs from h_p_inputs)
    have h_p_parts := (((rK zI)).mono e1 h_p_parts)
    refine (show (_ : TS) _ ([some v_p_parts, some (.int p_inputs), none, none, none, none, none, none] : L2.St) _ from ?_)
    refine w_asg (K := K) (tg_name (i := 2) (R := zI)) (e_ixL (e_KL (EvN.evK (e_lst (l_cons e_int (l_cons e_int (l_cons e_int l_nil))) (by decide)))) (e_ixL (e_KL (e_var (K := K) (i := 0) (R := (rK zI)) (x := p_parts) rfl h_p_parts)) e_int)) hs hm (fun p_states vv2 G2 H2 e2 hs hv2 hm => ?_)
    obtain ⟨v_p_states, rfl, h_p_states⟩ := hv2
    cases (show v_p_states = V.int p_states from h_p_states)
    have h_p_parts := (((rK zI)).mono e2 h_p_parts)
    refine (show (_ : TS) _ ([some v_p_parts, some (.int p_inputs), some (.int p_states), none, none, none, none, none] : L2.St) _ from ?_)
    refine w_asgN (K := K) (R := (rT (rP (rsC zI (rs1 zI))))) (i := 3) (e_lst l_nil (by decide)) hs hm (fun p_rows l_p_rows vs_p_rows G3 H3 e3 hs h3 hm => ?_)
    have h_p_parts := (((rK zI)).mono e3 h_p_parts)
    have h_p_rows := h3
    refine (show (_ : TS) _ ([some v_p_parts, some (.int p_inputs), some (.int p_states), some (.ref l_p_rows), none, none, none, none] : L2.St) _ from ?_)
    refine w_forM (K := K) (fun (p_rows : (List (List (Int × Int)))) (σ : L2.St) (G : Hp) (O : Own) => ∃ (l_p_rows : Addr) (vs_p_rows : List V) (d_4 : Option V) (d_5 : Option V) (d_6 : Option V) (d_7 : Option V), σ = [some v_p_parts, some (.int p_inputs), some (.int p_states), some (.ref l_p_rows), d_4, d_5, d_6, d_7] ∧ O = [(l_p_rows, .lst vs_p_rows)] ∧ RLs (rT (rP (rsC zI (rs1 zI)))) K G vs_p_rows p_rows) (i_rng1 (e_var (K := K) (i := 2) (R := zI) (x := p_states) rfl rfl)) (fun _ _ _ _ _ _ h => nomatch h) (tg_name (i := 4) (R := zI)) hs hm ⟨l_p_rows, vs_p_rows, none, none, none, none, rfl, rfl, h_p_rows⟩ (fun p_state p_rows σ_ G1_4 G4 O_ H4 vv4 D4 Qb4 e4 w_ e14 hs hv4 E4 hm => ?_) (fun p_rows σ_ G1_4 G4 O_ H4 e4 w_ e14 hs hm => ?_)
    · obtain ⟨l_p_rows, vs_p_rows, d_4, d_5, d_6, d_7, rfl, rfl, h_p_rows⟩ := w_
      have h_p_parts := (((rK zI)).mono e4 h_p_parts)
      have h_p_rows := RLs.mono e14 h_p_rows
      obtain ⟨v_p_state, rfl, h_p_state⟩ := hv4
      cases (show v_p_state = V.int p_state from h_p_state)
      have b4 := Same.refl G4
      refine (show (_ : TS) _ ([some v_p_parts, some (.int p_inputs), some (.int p_states), some (.ref l_p_rows), some (.int p_state), d_5, d_6, d_7] : L2.St) _ from ?_)
      unfold m_law_large_b13 at hm
      try dsimp only at hm
      refine w_asgN (K := K) (R := (rP (rsC zI (rs1 zI)))) (i := 5) (e_lst l_nil (by decide)) hs hm (fun p_row l_p_row vs_p_row G5 H5 e5 hs h5 hm => ?_)
      have h_p_parts := (((rK zI)).mono e5 h_p_parts)
      have h_p_rows := RLs.mono e5 h_p_rows
      have b4 := Same.trans b4 e5
      have h_p_row := h5
      refine (show (_ : TS) _ ([some v_p_parts, some (.int p_inputs), some (.int p_states), some (.ref l_p_rows), some (.int p_state), some (.ref l_p_row), d_6, d_7] : L2.St) _ from ?_)
      refine w_forM (K := K) (fun (p_row : (List (Int × Int))) (σ : L2.St) (G : Hp) (O : Own) => ∃ (l_p_row : Addr) (vs_p_row : List V) (d_6 : Option V) (d_7 : Option V), σ = [some v_p_parts, some (.int p_inputs), some (.int p_states), some (.ref l_p_rows), some (.int p_state), some (.ref l_p_row), d_6, d_7] ∧ O = [(l_p_row, .lst vs_p_row), (l_p_rows, .lst vs_p_rows)] ∧ RLs (rP (rsC zI (rs1 zI))) K G vs_p_row p_row) (i_rng1 (e_shl e_int (e_var (K := K) (i := 1) (R := zI) (x := p_inputs) rfl rfl))) (fun _ _ _ _ _ _ h => nomatch h) (tg_name (i := 6) (R := zI)) hs hm ⟨l_p_row, vs_p_row, d_6, d_7, rfl, rfl, h_p_row⟩ (fun p_k p_row σ_ G1_6 G6 O_ H6 vv6 D6 Qb6 e6 w_ e16 hs hv6 E6 hm => ?_) (fun p_row σ_ G1_6 G6 O_ H6 e6 w_ e16 hs hm => ?_)
      · obtain ⟨l_p_row, vs_p_row, d_6, d_7, rfl, rfl, h_p_row⟩ := w_
        have h_p_parts := (((rK zI)).mono e6 h_p_parts)
        have h_p_rows := RLs.mono e6 h_p_rows
        have h_p_row := RLs.mono e16 h_p_row
        obtain ⟨v_p_k, rfl, h_p_k⟩ := hv6
        cases (show v_p_k = V.int p_k from h_p_k)
        have b6 := Same.refl G6
        refine (show (_ : TS) _ ([some v_p_parts, some (.int p_inputs), some (.int p_states), some (.ref l_p_rows), some (.int p_state), some (.ref l_p_row), some (.int p_k), d_7] : L2.St) _ from ?_)
        unfold m_law_large_b11 at hm
        try dsimp only at hm
        refine w_asg (K := K) (tg_name (i := 7) (R := zI)) (e_add (e_add (e_ixL (e_KL (e_var (K := K) (i := 0) (R := (rK zI)) (x := p_parts) rfl h_p_parts)) e_int) (e_mul (e_var (K := K) (i := 4) (R := zI) (x := p_state) rfl rfl) (e_ixL (e_KL (e_var (K := K) (i := 0) (R := (rK zI)) (x := p_parts) rfl h_p_parts)) e_int))) (e_mul (e_var (K := K) (i := 6) (R := zI) (x := p_k) rfl rfl) (e_ixL (e_KL (e_var (K := K) (i := 0) (R := (rK zI)) (x := p_parts) rfl h_p_parts)) e_int))) hs hm (fun p_number vv7 G7 H7 e7 hs hv7 hm => ?_)
        obtain ⟨v_p_number, rfl, h_p_number⟩ := hv7
        cases (show v_p_number = V.int p_number from h_p_number)
        have h_p_parts := (((rK zI)).mono e7 h_p_parts)
        have h_p_rows := RLs.mono e7 h_p_rows
        have h_p_row := RLs.mono e7 h_p_row
        have b6 := Same.trans b6 e7
        refine (show (_ : TS) _ ([some v_p_parts, some (.int p_inputs), some (.int p_states), some (.ref l_p_rows), some (.int p_state), some (.ref l_p_row), some (.int p_k), some (.int p_number)] : L2.St) _ from ?_)
        refine w_app (K := K) (i := 5) 0 (xs := p_row) rfl rfl h_p_row (e_tup (lnC ln1) (a_cons (e_mod (e_intI (e_var (K := K) (i := 7) (R := zI) (x := p_number) rfl rfl)) (e_var (K := K) (i := 2) (R := zI) (x := p_states) rfl rfl)) (a_one (e_mod (e_intI (e_fdiv (e_var (K := K) (i := 7) (R := zI) (x := p_number) rfl rfl) e_int)) e_int))) (by decide)) hs hm (fun y8 w8 G8 H8 e8 hs h8 hm => ?_)
        have h_p_parts := (((rK zI)).mono e8 h_p_parts)
        have h_p_rows := RLs.mono e8 h_p_rows
        have b6 := Same.trans b6 e8
        have h_p_row := h8
        generalize p_row ++ [y8] = p_row at hm h_p_row
        generalize vs_p_row ++ [w8] = vs_p_row at hs h_p_row
        exact E6.nx p_row _ _ _ _ _ b6 ⟨l_p_row, vs_p_row, some (.int p_k), some (.int p_number), rfl, rfl, h_p_row⟩ (Same.refl _) hs hm.out
      · obtain ⟨l_p_row, vs_p_row, d_6, d_7, rfl, rfl, h_p_row⟩ := w_
        have h_p_parts := (((rK zI)).mono e6 h_p_parts)
        have h_p_rows := RLs.mono e6 h_p_rows
        have h_p_row := RLs.mono e16 h_p_row
        have b4 := Same.trans b4 e6
        refine (show (_ : TS) _ ([some v_p_parts, some (.int p_inputs), some (.int p_states), some (.ref l_p_rows), some (.int p_state), some (.ref l_p_row), d_6, d_7] : L2.St) _ from ?_)
        try dsimp only at hm
        have ng9 := (hs.at 0 rfl).2.1
        have eg9 := same_new (o := HO.lst vs_p_row) ng9
        have hs := hs.give 0 rfl
        have h_p_row : (rK (rP (rsC zI (rs1 zI)))).r K _ (.ref l_p_row) p_row := ⟨l_p_row, vs_p_row, rfl, upd_same, RLs.mono eg9 h_p_row⟩
        have h_p_parts := (((rK zI)).mono eg9 h_p_parts)
        have h_p_rows := RLs.mono eg9 h_p_rows
        have b4 := Same.trans b4 eg9
        refine w_app (K := K) (i := 3) 0 (xs := p_rows) rfl rfl h_p_rows (e_tupleL (e_KL (e_var (K := K) (i := 5) (R := (rK (rP (rsC zI (rs1 zI))))) (x := p_row) rfl h_p_row))) hs hm (fun y10 w10 G10 H10 e10 hs h10 hm => ?_)
        have h_p_parts := (((rK zI)).mono e10 h_p_parts)
        have h_p_row := (((rK (rP (rsC zI (rs1 zI))))).mono e10 h_p_row)
        have b4 := Same.trans b4 e10
        have h_p_rows := h10
        generalize p_rows ++ [y10] = p_rows at hm h_p_rows
        generalize vs_p_rows ++ [w10] = vs_p_rows at hs h_p_rows
        exact E4.nx p_rows _ _ _ _ _ b4 ⟨l_p_rows, vs_p_rows, some (.int p_state), some (.ref l_p_row), d_6, d_7, rfl, rfl, h_p_rows⟩ (Same.refl _) hs hm.out
    · obtain ⟨l_p_rows, vs_p_rows, d_4, d_5, d_6, d_7, rfl, rfl, h_p_rows⟩ := w_
      have h_p_parts := (((rK zI)).mono e4 h_p_parts)
      have h_p_rows := RLs.mono e14 h_p_rows
      refine (show (_ : TS) _ ([some v_p_parts, some (.int p_inputs), some (.int p_states), some (.ref l_p_rows), d_4, d_5, d_6, d_7] : L2.St) _ from ?_)
      try dsimp only at hm
      have ng12 := (hs.at 0 rfl).2.1
      have eg12 := same_new (o := HO.lst vs_p_rows) ng12
      have hs := hs.give 0 rfl
      have h_p_rows : (rK (rT (rP (rsC zI (rs1 zI))))).r K _ (.ref l_p_rows) p_rows := ⟨l_p_rows, vs_p_rows, rfl, upd_same, RLs.mono eg12 h_p_rows⟩
      have h_p_parts := (((rK zI)).mono eg12 h_p_parts)
      exact w_ret0 (K := K) (e_tup (lnC (lnC ln1)) (a_cons (e_var (K := K) (i := 1) (R := zI) (x := p_inputs) rfl rfl) (a_cons e_int (a_one (e_tupleL (e_KL (e_var (K := K) (i := 3) (R := (rK (rT (rP (rsC zI (rs1 zI)))))) (x := p_rows) rfl h_p_rows)))))) (by decide)) hs hm fun r v G2 H2 hs2 hr2 hq => hq v G2 H2 hs2.fin hr2

theorem ok_law {P : Program} {w : World} {K : PySem.W.Frag} {mg : Str → Option Value} {base : Heap} {cl : Nat → Addr} {fa : Addr} {fd : FuncData} (F : Fun K "law" "law" s_law fa fd) (T : Txt K mg cl) (C_law_parts : Cal P w K mg base "_law_parts" 1 ["cell", "sizes"] (spP K cl (rsC zI (rs1 (rK zI))) (rK zI) (fun a => m_law_parts (a.1) (a.2)))) (C_law_far : Cal P w K mg base "_law_far" 1 ["script", "k"] (spP K cl (rsC (rL zI) (rs1 zI)) zI (fun a => m_law_far (a.1) (a.2)))) (C_law_large : Cal P w K mg base "_law_large" 1 ["parts"] (spP K cl (rs1 (rK zI)) (rP (rsC zI (rsC zI (rs1 (rT (rT (rP (rsC zI (rs1 zI))))))))) (fun a => m_law_large a))) (C_law_text : Cal P w K mg base "_law_text" 1 ["table"] (spP K cl (rs1 (rP (rsC zI (rsC zI (rs1 (rT (rT (rP (rsC zI (rs1 zI)))))))))) rS (fun a => m_law_text a))) (C_write_table : Cal P w K mg base "write_table" 2 ["table"] (spP K cl (rs1 (rP (rsC zI (rsC zI (rs1 (rT (rT (rP (rsC zI (rs1 zI)))))))))) rS (fun a => m_write_table a))) (C_law_right_text : Cal P w K mg base "_law_right_text" 4 ["text"] (spP K cl (rs1 rS) rB (fun a => m_law_right_text a))) (C_law_changed : Cal P w K mg base "_law_changed" 2 ["text", "cell"] (spP K cl (rsC rS (rs1 zI)) rS (fun a => m_law_changed (a.1) (a.2)))) (C_law_table : Cal P w K mg base "_law_table" 2 ["script", "at", "most"] (spP K cl (rsC (rL zI) (rsC zI (rs1 zI))) (rP (rsC zI (rsC zI (rs1 (rT (rT (rP (rsC zI (rs1 zI))))))))) (fun a => m_law_table (a.1) (a.2.1) (a.2.2)))) :
    FnOk P w K mg base (L2.CX P w) 5 fa fd ["script"] (spP K cl (rs1 (rL zI)) rB (fun a => m_law a)) := by
  refine F.okX sc_law (fun vs H Q E h => ?_) (fun cdv A outer s H vs Q E hr h => ?_)
  · obtain ⟨G, a, _, hS, _⟩ := h
    exact ln1 _ _ _ _ hS
  · obtain ⟨G, p_script, hg, hS, hm⟩ := h
    obtain ⟨v_p_script, rfl, h_p_script⟩ := hS
    have tk : Takes (cxOf (L2.CX P w) P w K mg base N_law "law" (defScope s_law) fa cdv A outer s H E) (fun cls d _ H => E cls d H) := takes_of rfl rfl rfl rfl
    refine ⟨_, (pss_cons (ps_set (i := 1) sc_law.nd rfl (by first | exact Or.inl rfl | exact Or.inr rfl) (pe_call (E := E) C_law_parts.ok (hr.mono (by decide)) rfl C_law_parts.mgx C_law_parts.kp C_law_parts.bd .nil (passes_call tk (fun _ _ _ _ h => h)) (pa_cons (pe_call (E := E) C_law_far.ok (hr.mono (by decide)) rfl C_law_far.mgx C_law_far.kp C_law_far.bd .nil (passes_call tk (fun _ _ _ _ h => h)) (pa_cons (pv 0) (pa_cons pe_int pa_nil))) (pa_cons (pe_lst (pa_cons pe_int (pa_cons pe_int (pa_cons pe_int (pa_cons pe_int (pa_cons pe_int pa_nil)))))) pa_nil))))
     (pss_cons (ps_if (pt_cmpR op_eq (pe_ix (r := rIxL K) ix_list (pv 1) pe_int (fun _ _ => rfl)) pe_int (nomark _)) (pss_cons (ps_set (i := 2) sc_law.nd rfl (by first | exact Or.inl rfl | exact Or.inr rfl) (pe_call (E := E) C_law_large.ok (hr.mono (by decide)) rfl C_law_large.mgx C_law_large.kp C_law_large.bd .nil (passes_call tk (fun _ _ _ _ h => h)) (pa_cons (pv 1) pa_nil)))
     pss_nil) (pss_cons (ps_set (i := 2) sc_law.nd rfl (by first | exact Or.inl rfl | exact Or.inr rfl) (pe_call (E := E) C_law_table.ok (hr.mono (by decide)) rfl C_law_table.mgx C_law_table.kp C_law_table.bd .nil (passes_call tk (fun _ _ _ _ h => h)) (pa_cons (pv 0) (pa_cons pe_int (pa_cons pe_int pa_nil)))))
     pss_nil))
     (pss_cons (ps_set (i := 3) sc_law.nd rfl (by first | exact Or.inl rfl | exact Or.inr rfl) (pe_call (E := E) C_law_text.ok (hr.mono (by decide)) rfl C_law_text.mgx C_law_text.kp C_law_text.bd .nil (passes_call tk (fun _ _ _ _ h => h)) (pa_cons (pv 2) pa_nil)))
     (pss_cons (ps_set (i := 4) sc_law.nd rfl (by first | exact Or.inl rfl | exact Or.inr rfl) (pe_call (E := E) C_write_table.ok (hr.mono (by decide)) rfl C_write_table.mgx C_write_table.kp C_write_table.bd .nil (passes_call tk (fun _ _ _ _ h => h)) (pa_cons (pv 2) pa_nil)))
     (pss_cons (ps_if (PW.pt (pw_or (pt_not (pt_val (pe_callB (r := rIsi K) call_isi (by rfl) T.n_isinstance b_isinstance (pa_cons (pv 4) (pa_cons (pe_bltn (v := .ty "str") (by rfl) T.n_str b_str rfl) pa_nil))))) (pw_or (pt_cmpR op_ne (pv 4) (pv 3) (nomark _)) (pw_or (pt_not (pt_val (pe_call (E := E) C_law_right_text.ok (hr.mono (by decide)) rfl C_law_right_text.mgx C_law_right_text.kp C_law_right_text.bd .nil (passes_call tk (fun _ _ _ _ h => h)) (pa_cons (pv 3) pa_nil)))) (pw_or1 (pt_not (pt_val (pe_call (E := E) C_law_right_text.ok (hr.mono (by decide)) rfl C_law_right_text.mgx C_law_right_text.kp C_law_right_text.bd .nil (passes_call tk (fun _ _ _ _ h => h)) (pa_cons pe_str pa_nil))))))))) (pss_cons (ps_ret pe_bl)
     pss_nil) pss_nil)
     (pss_cons (ps_for (passes_of rfl) rfl (pi_range1 rfl T.n_range (pa_cons pe_int pa_nil)) (pg_name (i := 5) sc_law.nd rfl (by first | exact Or.inl rfl | exact Or.inr rfl)) (pss_cons (ps_if (pt_not (pt_val (pe_call (E := E) C_law_right_text.ok (hr.mono (by decide)) rfl C_law_right_text.mgx C_law_right_text.kp C_law_right_text.bd .nil (passes_call tk (fun _ _ _ _ h => h)) (pa_cons (pe_call (E := E) C_law_changed.ok (hr.mono (by decide)) rfl C_law_changed.mgx C_law_changed.kp C_law_changed.bd .nil (passes_call tk (fun _ _ _ _ h => h)) (pa_cons (pv 3) (pa_cons (pe_call (E := E) C_law_far.ok (hr.mono (by decide)) rfl C_law_far.mgx C_law_far.kp C_law_far.bd .nil (passes_call tk (fun _ _ _ _ h => h)) (pa_cons (pv 0) (pa_cons (pe_op op_add pe_int (pv 5)) pa_nil))) pa_nil))) pa_nil)))) (pss_cons (ps_ret pe_bl)
     pss_nil) pss_nil)
     pss_nil))
     (pss_cons (ps_ret pe_bl)
     pss_nil))))))), ?_⟩
    have hs : Hs ⟨H, G, E, cl⟩ G [] H := Hs.start hg
    have hm := Wp.ofSp (G0 := G) hm
    try dsimp only at hm
    unfold m_law at hm
    refine (show (_ : TS) _ ([some v_p_script, none, none, none, none, none] : L2.St) _ from ?_)
    refine w_asg (K := K) (tg_name (i := 1) (R := (rK zI))) (e_call (fm := ⟨H, G, E, cl⟩) (a_cons (e_call (fm := ⟨H, G, E, cl⟩) (a_cons (e_var (K := K) (i := 0) (R := (rL zI)) (x := p_script) rfl h_p_script) (a_one e_int))) (a_one (EvN.evK (e_lst (l_cons e_int (l_cons e_int (l_cons e_int (l_cons e_int (l_cons e_int l_nil))))) (by decide)))))) hs hm (fun p_head vv1 G1 H1 e1 hs hv1 hm => ?_)
    obtain ⟨v_p_head, rfl, h_p_head⟩ := hv1
    have h_p_script := (((rL zI)).mono e1 h_p_script)
    refine (show (_ : TS) _ ([some v_p_script, some v_p_head, none, none, none, none] : L2.St) _ from ?_)
    refine w_ifJ (k := fun s_ => (m_law_j3 p_script s_)) (fun (p_table : (Int × Int × (List (List (Int × Int))))) (σ : L2.St) (G : Hp) (O : Own) => ∃ (v_p_table : V), σ = [some v_p_script, some v_p_head, some v_p_table, none, none, none] ∧ O = [] ∧ ((rP (rsC zI (rsC zI (rs1 (rT (rT (rP (rsC zI (rs1 zI)))))))))).r K G v_p_table p_table) (t_test (K := K) (e_eq srI (e_ixL (e_KL (e_var (K := K) (i := 1) (R := (rK zI)) (x := p_head) rfl h_p_head)) e_int) e_int)) hs hm (fun p_table σ_ G1_2 G2 O_ H2 e2 w_ e12 hs hm => ?_) (fun G2 H2 J2 e2 hs hm => ?_) (fun G2 H2 J2 e2 hs hm => ?_)
    · obtain ⟨v_p_table, rfl, rfl, h_p_table⟩ := w_
      have h_p_script := (((rL zI)).mono e2 h_p_script)
      have h_p_head := (((rK zI)).mono e2 h_p_head)
      have h_p_table := (((rP (rsC zI (rsC zI (rs1 (rT (rT (rP (rsC zI (rs1 zI)))))))))).mono e12 h_p_table)
      refine (show (_ : TS) _ ([some v_p_script, some v_p_head, some v_p_table, none, none, none] : L2.St) _ from ?_)
      unfold m_law_j3 at hm
      try dsimp only at hm
      refine w_asg (K := K) (tg_name (i := 3) (R := rS)) (e_call (fm := ⟨H, G, E, cl⟩) (a_one (e_var (K := K) (i := 2) (R := (rP (rsC zI (rsC zI (rs1 (rT (rT (rP (rsC zI (rs1 zI)))))))))) (x := p_table) rfl h_p_table))) hs hm (fun p_text vv4 G4 H4 e4 hs hv4 hm => ?_)
      obtain ⟨v_p_text, rfl, h_p_text⟩ := hv4
      cases (show v_p_text = V.str p_text from h_p_text)
      have h_p_script := (((rL zI)).mono e4 h_p_script)
      have h_p_head := (((rK zI)).mono e4 h_p_head)
      have h_p_table := (((rP (rsC zI (rsC zI (rs1 (rT (rT (rP (rsC zI (rs1 zI)))))))))).mono e4 h_p_table)
      refine (show (_ : TS) _ ([some v_p_script, some v_p_head, some v_p_table, some (.str p_text), none, none] : L2.St) _ from ?_)
      refine w_asg (K := K) (tg_name (i := 4) (R := rS)) (e_call (fm := ⟨H, G, E, cl⟩) (a_one (e_var (K := K) (i := 2) (R := (rP (rsC zI (rsC zI (rs1 (rT (rT (rP (rsC zI (rs1 zI)))))))))) (x := p_table) rfl h_p_table))) hs hm (fun p_told vv5 G5 H5 e5 hs hv5 hm => ?_)
      obtain ⟨v_p_told, rfl, h_p_told⟩ := hv5
      cases (show v_p_told = V.str p_told from h_p_told)
      have h_p_script := (((rL zI)).mono e5 h_p_script)
      have h_p_head := (((rK zI)).mono e5 h_p_head)
      have h_p_table := (((rP (rsC zI (rsC zI (rs1 (rT (rT (rP (rsC zI (rs1 zI)))))))))).mono e5 h_p_table)
      refine (show (_ : TS) _ ([some v_p_script, some v_p_head, some v_p_table, some (.str p_text), some (.str p_told), none] : L2.St) _ from ?_)
      refine w_if (t_or (t_not (t_val (K := K) (e_isi (g := fun _ => true) ty_S (fun _ => by decide +kernel) (e_var (K := K) (i := 4) (R := rS) (x := p_told) rfl rfl)))) (t_or (t_test (K := K) (e_ne srS (e_var (K := K) (i := 4) (R := rS) (x := p_told) rfl rfl) (e_var (K := K) (i := 3) (R := rS) (x := p_text) rfl rfl))) (t_or (t_not (t_val (K := K) (e_call (fm := ⟨H, G, E, cl⟩) (a_one (e_var (K := K) (i := 3) (R := rS) (x := p_text) rfl rfl))))) (t_not (t_val (K := K) (e_call (fm := ⟨H, G, E, cl⟩) (a_one e_str))))))) hs hm (fun G6 H6 e6 hs hm => ?_) (fun G6 H6 e6 hs hm => ?_)
      · have h_p_script := (((rL zI)).mono e6 h_p_script)
        have h_p_head := (((rK zI)).mono e6 h_p_head)
        have h_p_table := (((rP (rsC zI (rsC zI (rs1 (rT (rT (rP (rsC zI (rs1 zI)))))))))).mono e6 h_p_table)
        exact w_ret0 (K := K) e_bl hs hm fun r v G2 H2 hs2 hr2 hq => hq v G2 H2 hs2.fin hr2
      · have h_p_script := (((rL zI)).mono e6 h_p_script)
        have h_p_head := (((rK zI)).mono e6 h_p_head)
        have h_p_table := (((rP (rsC zI (rsC zI (rs1 (rT (rT (rP (rsC zI (rs1 zI)))))))))).mono e6 h_p_table)
        refine nx_of ?_
        try dsimp only
        refine (show (_ : TS) _ ([some v_p_script, some v_p_head, some v_p_table, some (.str p_text), some (.str p_told), none] : L2.St) _ from ?_)
        refine w_forB (K := K) (Rr := rB) (fun (_ : Unit) (σ : L2.St) (G : Hp) (O : Own) => ∃ (d_5 : Option V), σ = [some v_p_script, some v_p_head, some v_p_table, some (.str p_text), some (.str p_told), d_5] ∧ O = []) (i_rng1 e_int) (fun _ _ _ _ _ _ h => nomatch h) (tg_name (i := 5) (R := zI)) hs hm ⟨none, rfl, rfl⟩ (fun r v G2 O2 H2 hs2 hr2 hq => hq v G2 H2 hs2.fin hr2) (fun p_k s_ σ_ G1_7 G7 O_ H7 vv7 D7 Qb7 e7 w_ e17 hs hv7 E7 hm => ?_) (fun s_ σ_ G1_7 G7 O_ H7 e7 w_ e17 hs hm => ?_)
        · obtain ⟨d_5, rfl, rfl⟩ := w_
          have h_p_script := (((rL zI)).mono e7 h_p_script)
          have h_p_head := (((rK zI)).mono e7 h_p_head)
          have h_p_table := (((rP (rsC zI (rsC zI (rs1 (rT (rT (rP (rsC zI (rs1 zI)))))))))).mono e7 h_p_table)
          obtain ⟨v_p_k, rfl, h_p_k⟩ := hv7
          cases (show v_p_k = V.int p_k from h_p_k)
          have b7 := Same.refl G7
          refine (show (_ : TS) _ ([some v_p_script, some v_p_head, some v_p_table, some (.str p_text), some (.str p_told), some (.int p_k)] : L2.St) _ from ?_)
          unfold m_law_b9 at hm
          try dsimp only at hm
          refine w_if (t_not (t_val (K := K) (e_call (fm := ⟨H, G, E, cl⟩) (a_one (e_call (fm := ⟨H, G, E, cl⟩) (a_cons (e_var (K := K) (i := 3) (R := rS) (x := p_text) rfl rfl) (a_one (e_call (fm := ⟨H, G, E, cl⟩) (a_cons (e_var (K := K) (i := 0) (R := (rL zI)) (x := p_script) rfl h_p_script) (a_one (e_add e_int (e_var (K := K) (i := 5) (R := zI) (x := p_k) rfl rfl)))))))))))) hs hm (fun G8 H8 e8 hs hm => ?_) (fun G8 H8 e8 hs hm => ?_)
          · have h_p_script := (((rL zI)).mono e8 h_p_script)
            have h_p_head := (((rK zI)).mono e8 h_p_head)
            have h_p_table := (((rP (rsC zI (rsC zI (rs1 (rT (rT (rP (rsC zI (rs1 zI)))))))))).mono e8 h_p_table)
            have b7 := Same.trans b7 e8
            exact w_ret (K := K) (kr := Tn.rt) e_bl hs hm fun r v G2 H2 hs2 hr2 hq => E7.rt r v _ _ _ hs2 hr2 hq
          · have h_p_script := (((rL zI)).mono e8 h_p_script)
            have h_p_head := (((rK zI)).mono e8 h_p_head)
            have h_p_table := (((rP (rsC zI (rsC zI (rs1 (rT (rT (rP (rsC zI (rs1 zI)))))))))).mono e8 h_p_table)
            have b7 := Same.trans b7 e8
            refine nx_of ?_
            try dsimp only
            refine (show (_ : TS) _ ([some v_p_script, some v_p_head, some v_p_table, some (.str p_text), some (.str p_told), some (.int p_k)] : L2.St) _ from ?_)
            exact E7.nx () _ _ _ _ _ b7 ⟨some (.int p_k), rfl, rfl⟩ (Same.refl _) hs hm.out
        · obtain ⟨d_5, rfl, rfl⟩ := w_
          have h_p_script := (((rL zI)).mono e7 h_p_script)
          have h_p_head := (((rK zI)).mono e7 h_p_head)
          have h_p_table := (((rP (rsC zI (rsC zI (rs1 (rT (rT (rP (rsC zI (rs1 zI)))))))))).mono e7 h_p_table)
          refine (show (_ : TS) _ ([some v_p_script, some v_p_head, some v_p_table, some (.str p_text), some (.str p_told), d_5] : L2.St) _ from ?_)
          try dsimp only at hm
          exact w_ret0 (K := K) e_bl hs hm fun r v G2 H2 hs2 hr2 hq => hq v G2 H2 hs2.fin hr2
    · have h_p_script := (((rL zI)).mono e2 h_p_script)
      have h_p_head := (((rK zI)).mono e2 h_p_head)
      have b2 := Same.refl G2
      refine w_asg (K := K) (tg_name (i := 2) (R := (rP (rsC zI (rsC zI (rs1 (rT (rT (rP (rsC zI (rs1 zI))))))))))) (e_call (fm := ⟨H, G, E, cl⟩) (a_one (e_var (K := K) (i := 1) (R := (rK zI)) (x := p_head) rfl h_p_head))) hs hm (fun p_table vv10 G10 H10 e10 hs hv10 hm => ?_)
      obtain ⟨v_p_table, rfl, h_p_table⟩ := hv10
      have h_p_script := (((rL zI)).mono e10 h_p_script)
      have h_p_head := (((rK zI)).mono e10 h_p_head)
      have b2 := Same.trans b2 e10
      refine (show (_ : TS) _ ([some v_p_script, some v_p_head, some v_p_table, none, none, none] : L2.St) _ from ?_)
      exact J2.nx p_table _ _ _ _ _ b2 ⟨v_p_table, rfl, rfl, h_p_table⟩ (Same.refl _) hs hm
    · have h_p_script := (((rL zI)).mono e2 h_p_script)
      have h_p_head := (((rK zI)).mono e2 h_p_head)
      have b2 := Same.refl G2
      refine w_asg (K := K) (tg_name (i := 2) (R := (rP (rsC zI (rsC zI (rs1 (rT (rT (rP (rsC zI (rs1 zI))))))))))) (e_call (fm := ⟨H, G, E, cl⟩) (a_cons (e_var (K := K) (i := 0) (R := (rL zI)) (x := p_script) rfl h_p_script) (a_cons e_int (a_one e_int)))) hs hm (fun p_table vv11 G11 H11 e11 hs hv11 hm => ?_)
      obtain ⟨v_p_table, rfl, h_p_table⟩ := hv11
      have h_p_script := (((rL zI)).mono e11 h_p_script)
      have h_p_head := (((rK zI)).mono e11 h_p_head)
      have b2 := Same.trans b2 e11
      refine (show (_ : TS) _ ([some v_p_script, some v_p_head, some v_p_table, none, none, none] : L2.St) _ from ?_)
      exact J2.nx p_table _ _ _ _ _ b2 ⟨v_p_table, rfl, rfl, h_p_table⟩ (Same.refl _) hs hm
end G96

namespace G96
open PySem PySem.Spec L2 Mw NdefX
abbrev s_init : Stmt := inClass (top 2) 0
theorem xin_mk {P : Program} {w : World} {K : PySem.W.Frag} {mg : Str → Option Value} {base : Heap} {C cc cda f : Addr} {oc kV dc pm ct : Value} {od an : Option Addr} {sl : Array (Option Value)}
    (lk : K.lookup f = some ⟨oc, od, .func (PySem.W.fnX "__init__" "InvalidTable.__init__" (defArgs s_init) (defBody s_init) (defScope s_init) [("__class__", cc)] .none kV dc pm an (.ref cda) ct), sl⟩) (hcd : PySem.W.codeIn K (.ref cda) "InvalidTable.__init__" = true)
    (SC : SupC P K mg C cc cda) (iC : PySem.W.findIn K (.ref C) "__init__" = some (some (.ref f))) (tI : PySem.W.typeIn K (.ref f) = some (.type "function")) (no : PySem.W.findIn K (.ref C) "line" = some none) : XIn P w K mg base C 1 "line" "line" := by
  refine ⟨SC.ox, no, f, PySem.W.fnX "__init__" "InvalidTable.__init__" (defArgs s_init) (defBody s_init) (defScope s_init) [(("__class__" : Str), cc)] .none kV dc pm an (.ref cda) ct, iC, tI, ?_, .all fun us hl => match us, hl with | [_, _], _ => rfl⟩
  refine fn_super (body := defBody s_init) (N := ["self", "line", "__class__"]) (ps := ["self", "line"]) rfl lk hcd (nscope_by (by decide +kernel)) SC (by decide +kernel) rfl rfl (by decide +kernel) _ (fun L => rfl) (fun L => rfl) (fun vs H Q E h => ?_) (fun A outer s H vs Q E hr h => ?_)
  · obtain ⟨a, y, rfl, _⟩ := h
    rfl
  · obtain ⟨a, y, rfl, ha, hq⟩ := h
    refine ⟨a, _, rfl, pss_cons (ps_ost (pv 0) (pv 1)) pss_nil, ha, ?_⟩
    exact ⟨y, rfl, _, rfl, a, C, rfl, SC.ox, no, .inl ⟨ha, fun dx n ne => hq dx n ne⟩⟩
theorem okA_law_is_integer {P : Program} {w : World} {K : PySem.W.Frag} {mg : Str → Option Value} {base : Heap} {cl : Nat → Addr} {fa : Addr} {fd : FuncData} (F : Fun K "_law_is_integer" "_law_is_integer" s_law_is_integer fa fd) (T : Txt K mg cl) :
    FnA P w K mg base 1 fa fd ["actual"] (spP K cl (rs1 (rO zI)) rB (fun a => m_law_is_integer a)) := by
  refine fn_ofA F sc_law_is_integer (fun vs H Q E h => ?_) (fun cdv A outer s H vs Q E h => ?_)
  · obtain ⟨G, a, _, hS, _⟩ := h
    exact ln1 _ _ _ _ hS
  · obtain ⟨G, p_actual, hg, hS, hm⟩ := h
    obtain ⟨v_p_actual, rfl, h_p_actual⟩ := hS
    refine ⟨_, (pss_cons (ps_ret (pe_and (pe_callB (r := rIsi K) call_isi (by rfl) T.n_isinstance b_isinstance (pa_cons (pv 0) (pa_cons (pe_bltn (v := .ty "int") (by rfl) T.n_int b_int rfl) pa_nil))) (pe_one (pe_not (pe_callB (r := rIsi K) call_isi (by rfl) T.n_isinstance b_isinstance (pa_cons (pv 0) (pa_cons (pe_bltn (v := .ty "bool") (by rfl) T.n_bool b_bool rfl) pa_nil)))))))
     pss_nil), ?_⟩
    have hs : Hs ⟨H, G, E, cl⟩ G [] H := Hs.start hg
    have hm := Wp.ofSp (G0 := G) hm
    try dsimp only at hm
    unfold m_law_is_integer at hm
    refine (show (_ : TS) _ ([some v_p_actual] : L2.St) _ from ?_)
    exact w_ret0 (K := K) (e_and (e_isi (g := fun o => o.isSome) ty_OI isi_OI_int (e_var (K := K) (i := 0) (R := (rO zI)) (x := p_actual) rfl h_p_actual)) (e_not (e_isi (g := fun _ => false) ty_OI isi_OI_bool (e_var (K := K) (i := 0) (R := (rO zI)) (x := p_actual) rfl h_p_actual)))) hs hm fun r v G2 H2 hs2 hr2 hq => hq v G2 H2 hs2.fin hr2
end G96

/-! k96, the plain law: words and numbers -/
namespace T96
open PySem Mw SX TL
abbrev isD (c : Nat) : Bool := decide (48 ≤ c) && decide (c ≤ 57)
/-- a number as a table's text writes it -/
def isNum (w : List Nat) : Bool := !w.isEmpty && w.all isD && (decide (w.length ≤ 1) || !decide (w.head? = some 48))
def val (w : List Nat) : Int := (NumText.digitsVal w : Nat)
theorem digit_is : ∀ c, c < 128 → Unicode.isDigit c = isD c := by decide +kernel
theorem snocRec {α : Type} {P : List α → Prop} (h0 : P []) (h1 : ∀ w d, P w → P (w ++ [d])) (w : List α) : P w := by
  have key : ∀ r : List α, P r.reverse := by
    intro r
    induction r with
    | nil => exact h0
    | cons a r ih => rw [List.reverse_cons]; exact h1 _ _ ih
  have := key w.reverse
  rwa [List.reverse_reverse] at this
theorem isdigit_S {w : List Nat} (h : ∀ c ∈ w, c < 128) : Txt.isdigit (S w) = (!w.isEmpty && w.all isD) := by
  unfold Txt.isdigit
  have e1 : (S w).cps.all Unicode.isDigit = w.all isD := by
    show (w.toArray).all Unicode.isDigit = _
    rw [List.all_toArray]
    induction w with
    | nil => rfl
    | cons c w ih =>
      rw [List.all_cons, List.all_cons, digit_is c (h c (List.mem_cons_self ..)), ih fun x hx => h x (List.mem_cons_of_mem _ hx)]
  rw [e1, S_len]
  cases w with
  | nil => rfl
  | cons c w => simp
theorem dv_snoc (w : List Nat) (d : Nat) : NumText.digitsVal (w ++ [d]) = NumText.digitsVal w * 10 + (d - 48) := by
  unfold NumText.digitsVal
  rw [List.foldl_append]
  rfl
theorem dv_le (w : List Nat) : w.all isD = true → NumText.digitsVal w < 10 ^ w.length := by
  induction w using snocRec with
  | h0 => intro _; decide
  | h1 w d ih =>
    intro h
    rw [List.all_append] at h
    obtain ⟨h1, h2⟩ := Bool.and_eq_true_iff.mp h
    have h3 := ih h1
    simp [isD] at h2
    rw [dv_snoc, List.length_append, List.length_singleton, Nat.pow_succ]
    omega
theorem dv_pos (w : List Nat) : w.all isD = true → w ≠ [] → w.head? ≠ some 48 → 1 ≤ NumText.digitsVal w := by
  induction w using snocRec with
  | h0 => intro _ h _; exact absurd rfl h
  | h1 w d ih =>
    intro h _ hh
    rw [List.all_append] at h
    obtain ⟨h1, h2⟩ := Bool.and_eq_true_iff.mp h
    simp [isD] at h2
    rw [dv_snoc]
    cases w with
    | nil =>
      have : d ≠ 48 := fun z => hh (by rw [z]; rfl)
      simp [NumText.digitsVal]
      omega
    | cons c w =>
      have := ih h1 (by simp) (by simpa using hh)
      omega
theorem numL_dv (w : List Nat) : w.all isD = true → w ≠ [] → (w.length ≤ 1 ∨ w.head? ≠ some 48) → numL (NumText.digitsVal w) = w := by
  induction w using snocRec with
  | h0 => intro _ h _; exact absurd rfl h
  | h1 w d ih =>
    intro h _ hh
    rw [List.all_append] at h
    obtain ⟨h1, h2⟩ := Bool.and_eq_true_iff.mp h
    simp [isD] at h2
    rw [dv_snoc]
    cases w with
    | nil =>
      rw [show NumText.digitsVal [] * 10 + (d - 48) = d - 48 by simp [NumText.digitsVal], numL_lt (by omega)]
      simp
      omega
    | cons c w =>
      have hh2 : (c :: w).head? ≠ some 48 := by
        rcases hh with hh | hh
        · simp at hh
        · simpa using hh
      have hp := dv_pos (c :: w) h1 (by simp) hh2
      rw [numL_step (by omega), show (NumText.digitsVal (c :: w) * 10 + (d - 48)) / 10 = NumText.digitsVal (c :: w) by omega, ih h1 (by simp) (.inr hh2),
        show 48 + (NumText.digitsVal (c :: w) * 10 + (d - 48)) % 10 = d by omega]
theorem numL_head (n : Nat) : 1 ≤ n → (numL n).head? ≠ some 48 := by
  induction n using Nat.strongRecOn with
  | _ n ih =>
    intro h
    by_cases h10 : n < 10
    · rw [numL_lt h10]
      simp
      omega
    · rw [numL_step (by omega)]
      have := ih (n / 10) (by omega) (by omega)
      cases hn : numL (n / 10) with
      | nil => exact absurd hn (numL_ne _)
      | cons a l => rw [hn] at this; simpa using this
theorem num_iff {w : List Nat} (h : w.all isD = true) (hne : w ≠ []) : (numL (NumText.digitsVal w) = w) ↔ (decide (w.length ≤ 1) || !decide (w.head? = some 48)) = true := by
  constructor
  · intro e
    simp only [Bool.or_eq_true, decide_eq_true_eq, Bool.not_eq_true', decide_eq_false_iff_not]
    by_cases h1 : w.length ≤ 1
    · exact .inl h1
    · refine .inr fun z => ?_
      by_cases hp : 1 ≤ NumText.digitsVal w
      · exact numL_head _ hp (by rw [e]; exact z)
      · have h0 : NumText.digitsVal w = 0 := by omega
        rw [h0, numL_lt (by omega)] at e
        rw [← e] at h1
        simp at h1
  · intro e
    simp only [Bool.or_eq_true, decide_eq_true_eq, Bool.not_eq_true', decide_eq_false_iff_not] at e
    exact numL_dv w h hne e
theorem eqM_ok {α : Type} [DecidableEq α] (a b : α) : eqM (.ok a) (.ok b) = .ok (decide (a = b)) := rfl
theorem ok_and (a : Bool) (m : Res Bool) : andM (.ok a) m = if a = true then m else .ok false := by cases a <;> rfl
theorem val_lt {w : List Nat} (h : w.all isD = true) (hl : w.length ≤ 500) : ((val w).natAbs).log2 < 1920 := by
  have h1 := dv_le w h
  have h2 : (10 : Nat) ^ w.length ≤ 10 ^ 500 := Nat.pow_le_pow_right (by decide) hl
  have h3 : (10 : Nat) ^ 500 < 2 ^ 1920 := by decide +kernel
  have e : (val w).natAbs = NumText.digitsVal w := Int.natAbs_natCast _
  rw [e]
  by_cases h0 : NumText.digitsVal w = 0
  · rw [h0]; decide
  · exact (Nat.log2_lt h0).mpr (by omega)
theorem int_word {w : List Nat} (h : w.all isD = true) (hne : w ≠ []) (hl : w.length ≤ 500) : intSM (.ok (S w)) = .ok (val w) := by
  show (if (S w).length ≤ 640 then optM (PySem.intText? (S w)) else .stuck) = _
  rw [S_len, if_pos (by omega), int_S h hne (by omega)]
  rfl
theorem is_number_ok {w : List Nat} (h : ∀ c ∈ w, c < 128) (hl : w.length ≤ 500) : G96.m_is_number (S w) = .ok (isNum w) := by
  unfold G96.m_is_number
  have e1 : isdM (.ok (S w)) = .ok (!w.isEmpty && w.all isD) := by
    show Res.ok (Txt.isdigit (S w)) = _
    rw [isdigit_S h]
  rw [e1, ok_and]
  unfold isNum
  cases hd : (!w.isEmpty && w.all isD) with
  | false => rfl
  | true =>
    rw [if_pos rfl]
    obtain ⟨h1, h2⟩ := Bool.and_eq_true_iff.mp hd
    have hne : w ≠ [] := by
      intro z
      rw [z] at h1
      cases h1
    rw [int_word h2 hne hl]
    have e2 : strIM (.ok (val w)) = .ok (S (numL (NumText.digitsVal w))) := by
      show (if (val w).natAbs.log2 < 1920 then Res.ok (strI (val w)) else .stuck) = _
      rw [if_pos (val_lt h2 hl)]
      show Res.ok (Str.ofString (toString ((NumText.digitsVal w : Nat) : Int))) = _
      rw [num_S]
    rw [e2, eqM_ok, Bool.true_and]
    congr 1
    rw [Bool.eq_iff_iff, decide_eq_true_eq, ← num_iff h2 hne]
    exact ⟨fun e => S_inj e, fun e => by rw [e]⟩
end T96

/-! k96, the plain law: texts cut at a sign, lines of numbers -/
namespace T96
open PySem Mw SX TL
/-- a text cut at the sign c -/
def cut (c : Nat) : List Nat → List (List Nat)
  | [] => [[]]
  | x :: l => if x = c then [] :: cut c l else match cut c l with | p :: ps => (x :: p) :: ps | [] => [[x]]
theorem cut_ne (c : Nat) : ∀ l, cut c l ≠ []
  | [] => by simp [cut]
  | x :: l => by
    unfold cut
    split
    · simp
    · cases cut c l <;> simp
theorem pre1 (c x : Nat) (r : List Nat) : pre [c] (x :: r) = decide (x = c) := by
  unfold pre
  rw [Bool.eq_iff_iff]
  simp
theorem spl_cut (c : Nat) : ∀ (l acc : List Nat), spl [c] 0 acc l = match cut c l with | p :: ps => (acc ++ p) :: ps | [] => []
  | [], acc => by rw [spl_nil]; simp [cut]
  | x :: l, acc => by
    by_cases h : x = c
    · rw [spl_hit (by rw [pre1]; exact decide_eq_true h)]
      unfold cut
      rw [if_pos h, show ([c] : List Nat).length - 1 = 0 from rfl, spl_cut c l []]
      cases hc : cut c l with
      | nil => exact absurd hc (cut_ne c l)
      | cons p ps => simp
    · rw [spl_miss (by rw [pre1]; exact decide_eq_false h), spl_cut c l]
      cases hc : cut c l with
      | nil => exact absurd hc (cut_ne c l)
      | cons p ps =>
        have e : cut c (x :: l) = (x :: p) :: ps := by rw [cut, if_neg h, hc]
        rw [e]
        simp
theorem split_S (l : List Nat) {c : Nat} (hc : c < 256) : Txt.split (S l) (S [c]) = (cut c l).map S := by
  apply map_tl_inj
  rw [split_spl (S l) (S [c]) (by simp [tl]) (kind_ok (by
    show ([c].toArray).all (· < 256) = true
    rw [List.all_toArray]
    simp [hc]))]
  show spl [c] 0 [] l = _
  rw [spl_cut]
  cases hk : cut c l with
  | nil => exact absurd hk (cut_ne c l)
  | cons p ps =>
    rw [List.map_map]
    show p :: ps = (p :: ps).map (fun a => a)
    simp
theorem cut_mem {c : Nat} : ∀ {l p : List Nat}, p ∈ cut c l → ∀ x ∈ p, x ∈ l ∧ x ≠ c
  | [], p, h, x, hx => by
    simp [cut] at h
    rw [h] at hx
    cases hx
  | y :: l, p, h, x, hx => by
    unfold cut at h
    split at h
    · rcases List.mem_cons.mp h with h | h
      · rw [h] at hx; cases hx
      · have := cut_mem h x hx
        exact ⟨List.mem_cons_of_mem _ this.1, this.2⟩
    · rename_i hy
      cases hc : cut c l with
      | nil => exact absurd hc (cut_ne c l)
      | cons q qs =>
        rw [hc] at h
        rcases List.mem_cons.mp h with h | h
        · rw [h] at hx
          rcases List.mem_cons.mp hx with hx | hx
          · rw [hx]; exact ⟨List.mem_cons_self .., hy⟩
          · have := cut_mem (l := l) (p := q) (by rw [hc]; exact List.mem_cons_self ..) x hx
            exact ⟨List.mem_cons_of_mem _ this.1, this.2⟩
        · have := cut_mem (l := l) (p := p) (by rw [hc]; exact List.mem_cons_of_mem _ h) x hx
          exact ⟨List.mem_cons_of_mem _ this.1, this.2⟩
theorem cut_len (c : Nat) : ∀ l : List Nat, (cut c l).length ≤ l.length + 1
  | [] => by simp [cut]
  | x :: l => by
    have := cut_len c l
    unfold cut
    split
    · simp; exact this
    · cases hc : cut c l with
      | nil => exact absurd hc (cut_ne c l)
      | cons q qs => rw [hc] at this; simp at this ⊢; omega
/-- what the numbers of a line are -/
def nums (l : List Nat) : Option (List Int) := if (cut 32 l).all isNum = true then some ((cut 32 l).map val) else none
/-- a line whose signs and words are small -/
structure Ln (l : List Nat) : Prop where
  ch : ∀ c ∈ l, c < 128
  wd : ∀ w ∈ cut 32 l, w.length ≤ 500
  ln : l.length < 900000
theorem sp_is : ((" " : Str)) = S [32] := by decide +kernel
theorem nl_is : (("\n" : Str)) = S [10] := by decide +kernel
theorem splM_ok {l : List Nat} {c : Nat} (hc : c < 256) (h : l.length < 900000) : splM (.ok (S l)) (.ok (S [c])) = .ok ((cut c l).map S) := by
  show (if ((S [c]).length == 0) = false ∧ (S l).length + 2 ≤ lim then Res.ok (Txt.split (S l) (S [c])) else .stuck) = _
  have := lim_big
  rw [if_pos ⟨by rw [S_len]; rfl, by rw [S_len]; omega⟩, split_S l hc]
theorem isNum_digits {w : List Nat} (h : isNum w = true) : w.all isD = true ∧ w ≠ [] := by
  unfold isNum at h
  simp only [Bool.and_eq_true] at h
  refine ⟨h.1.2, fun z => ?_⟩
  rw [z] at h
  simp at h
theorem read_numbers_ok {l : List Nat} (h : Ln l) : G96.m_read_numbers (S l) = .ok (nums l) := by
  unfold G96.m_read_numbers
  rw [sp_is, splM_ok (by decide) h.ln, Res.bind_ok]
  have hl : ((cut 32 l).map S).length < 1000000 := by
    have := cut_len 32 l
    have := h.ln
    rw [List.length_map]; omega
  have e1 : lcB (fun (x2 : Str) => .ok true) (fun (x2 : Str) => (Res.bind (.ok x2) fun a => G96.m_is_number a)) (.ok ((cut 32 l).map S)) = .ok (((cut 32 l).map S).map fun x => isNum (tl x)) := by
    refine lcB_map _ hl fun x hx => ?_
    obtain ⟨w, hw, rfl⟩ := List.mem_map.mp hx
    rw [Res.bind_ok]
    exact is_number_ok (fun c hc => h.ch c (cut_mem hw c hc).1) (h.wd w hw)
  rw [e1]
  have e2 : ((cut 32 l).map S).map (fun x => isNum (tl x)) = (cut 32 l).map isNum := by
    rw [List.map_map]; rfl
  rw [e2]
  have e3 : notM (allM (.ok ((cut 32 l).map isNum))) = .ok (!(cut 32 l).all isNum) := by
    show Res.ok (!((cut 32 l).map isNum).all _) = _
    congr 2
    rw [List.all_map]
    rfl
  rw [e3, bif_eq]
  unfold nums
  cases ha : (cut 32 l).all isNum with
  | false => rfl
  | true =>
    rw [if_neg (by decide), if_pos rfl]
    have e4 : lcB (fun (x4 : Str) => .ok true) (fun (x4 : Str) => (intSM (.ok x4))) (.ok ((cut 32 l).map S)) = .ok (((cut 32 l).map S).map fun x => val (tl x)) := by
      refine lcB_map _ hl fun x hx => ?_
      obtain ⟨w, hw, rfl⟩ := List.mem_map.mp hx
      obtain ⟨h1, h2⟩ := isNum_digits (List.all_eq_true.mp ha w hw)
      exact int_word h1 h2 (h.wd w hw)
    rw [e4, List.map_map]
    rfl
end T96

/-! k96, the plain law: the law's reading of a line -/
namespace T96
open PySem Mw SX TL
theorem dg_is : (("0123456789" : Str)) = S [48, 49, 50, 51, 52, 53, 54, 55, 56, 57] := by decide +kernel
theorem zero_is : (("0" : Str)) = S [48] := by decide +kernel
theorem emp_is : (("" : Str)) = S [] := by decide +kernel
theorem mem_dg (c : Nat) : decide (c ∈ [48, 49, 50, 51, 52, 53, 54, 55, 56, 57]) = isD c := by
  rw [Bool.eq_iff_iff, decide_eq_true_eq]
  simp [isD]
  omega
theorem b7_ok (c : Nat) : G96.m_law_numbers_b7 (S [c]) () = .ok (if isD c = true then .nx () else .rt none) := by
  unfold G96.m_law_numbers_b7
  rw [dg_is]
  have e : ninSM (.ok (S [c])) (.ok (S [48, 49, 50, 51, 52, 53, 54, 55, 56, 57])) = .ok (!isD c) := by
    show Res.ok (!(!(Builtin.Str.occurrences (S [48, 49, 50, 51, 52, 53, 54, 55, 56, 57]) (S [c]) 0 (S [48, 49, 50, 51, 52, 53, 54, 55, 56, 57]).length 1).isEmpty)) = _
    rw [in_one, mem_dg]
  show Res.ite (ninSM (.ok (S [c])) (.ok (S [48, 49, 50, 51, 52, 53, 54, 55, 56, 57]))) (Res.bind (.ok none) fun r => .ok (Tn.rt r)) (.ok (Tn.nx ())) = _
  rw [e, bif_eq]
  cases isD c <;> rfl
theorem b7_all : ∀ w : List Nat, forB G96.m_law_numbers_b7 (w.map fun c => S [c]) () = .ok (if w.all isD = true then .nx () else .rt none)
  | [] => rfl
  | c :: w => by
    rw [List.map_cons, forB, b7_ok, Res.bind_ok]
    cases h : isD c with
    | false => rw [List.all_cons, h]; rfl
    | true =>
      rw [List.all_cons, h, if_pos rfl]
      dsimp only
      rw [b7_all w]
      rfl
theorem sgL_S (w : List Nat) : sgL (S w) = w.map fun c => S [c] := rfl
theorem ixS_0 {w : List Nat} (hne : w ≠ []) (hl : w.length ≤ 500) : ixSM (.ok (S w)) (.ok 0) = .ok (S [w.head hne]) := by
  cases w with
  | nil => exact absurd rfl hne
  | cons c w =>
    have := lim_big
    show (if (S (c :: w)).length ≤ lim then _ else Res.stuck) = _
    rw [if_pos (by rw [S_len]; omega)]
    have e : L2.atI (S (c :: w)).cps.toList 0 = some c := by
      have := atI_gx (xs := c :: w) (i := 0) (by omega) (by simp)
      show L2.atI (c :: w) 0 = some c
      rw [this]
      rfl
    rw [e]
    rfl
theorem b9_ok {w : List Nat} (hl : w.length ≤ 500) {acc : List Int} (ha : acc.length < 1000000) :
    G96.m_law_numbers_b9 (S w) acc = .ok (if isNum w = true then .nx (acc ++ [val w]) else .rt none) := by
  unfold G96.m_law_numbers_b9
  have hlim := lim_big
  by_cases hne : w = []
  · subst hne
    rfl
  · have e1 : orM (eqM (.ok (S w)) (.ok ("" : Str))) (andM (gtM (lenSM (.ok (S w))) (.ok (1 : Int))) (eqM (ixSM (.ok (S w)) (.ok (0 : Int))) (.ok ("0" : Str)))) = .ok (decide (1 < w.length) && decide (w.head? = some 48)) := by
      rw [emp_is, zero_is, eqM_ok, ixS_0 hne hl]
      have h1 : decide (S w = S []) = false := decide_eq_false fun z => hne (S_inj z)
      rw [h1]
      have h2 : lenSM (.ok (S w)) = .ok (w.length : Int) := by
        show (if (S w).length ≤ lim then Res.ok ((S w).length : Int) else .stuck) = _
        rw [S_len, if_pos (by omega)]
      rw [h2]
      show andM (gtM (.ok (w.length : Int)) (.ok 1)) (eqM (.ok (S [w.head hne])) (.ok (S [48]))) = _
      have h3 : gtM (.ok (w.length : Int)) (.ok 1) = .ok (decide (1 < w.length)) := by
        show Res.ok (decide ((1 : Int) < w.length)) = _
        congr 1
        exact decide_eq_decide.mpr (by omega)
      rw [h3, ok_and, eqM_ok]
      cases hd : decide (1 < w.length) with
      | false => rfl
      | true =>
        rw [if_pos rfl, Bool.true_and]
        congr 1
        refine decide_eq_decide.mpr ?_
        rw [List.head?_eq_some_head hne]
        exact ⟨fun z => by have := S_inj z; simp at this; rw [this], fun z => by rw [Option.some.inj z]⟩
    rw [e1, bif_eq]
    have e2 : isNum w = (w.all isD && !(decide (1 < w.length) && decide (w.head? = some 48))) := by
      unfold isNum
      have : w.isEmpty = false := by cases w with | nil => exact absurd rfl hne | cons a l => rfl
      rw [this]
      have : decide (w.length ≤ 1) = !decide (1 < w.length) := by
        rw [← decide_not]
        exact decide_eq_decide.mpr (by omega)
      rw [this]
      cases w.all isD <;> cases decide (1 < w.length) <;> cases decide (w.head? = some 48) <;> rfl
    rw [e2]
    cases hz : (decide (1 < w.length) && decide (w.head? = some 48)) with
    | true =>
      rw [Bool.not_true, Bool.and_false]
      rfl
    | false =>
      rw [if_neg (by decide), Bool.not_false, Bool.and_true, Res.bind_ok, Res.bind_ok, sgL_S, b7_all, Res.bind_ok]
      cases hd : w.all isD with
      | false => rfl
      | true =>
        rw [if_pos rfl, if_pos rfl, Lp.el]
        show appM acc (intSM (.ok (S w))) _ = _
        rw [int_word hd hne hl]
        show (if acc.length < lim then _ else Res.stuck) = _
        rw [if_pos (by omega)]
theorem b9_all : ∀ {ws : List (List Nat)} {acc : List Int}, (∀ w ∈ ws, w.length ≤ 500) → acc.length + ws.length < 1000000 →
    forB G96.m_law_numbers_b9 (ws.map S) acc = .ok (if ws.all isNum = true then .nx (acc ++ ws.map val) else .rt none)
  | [], acc, _, _ => by
    simp [forB]
  | w :: ws, acc, h, hl => by
    simp only [List.length_cons] at hl
    rw [List.map_cons, forB, b9_ok (h w (List.mem_cons_self ..)) (by omega), Res.bind_ok]
    cases hn : isNum w with
    | false => rw [List.all_cons, hn]; rfl
    | true =>
      rw [List.all_cons, hn, if_pos rfl]
      dsimp only
      rw [b9_all (fun x hx => h x (List.mem_cons_of_mem _ hx)) (by rw [List.length_append, List.length_singleton]; omega), Bool.true_and]
      simp
theorem law_numbers_ok {l : List Nat} (h : Ln l) : G96.m_law_numbers (S l) = .ok (nums l) := by
  unfold G96.m_law_numbers
  have := cut_len 32 l
  have := h.ln
  rw [Res.bind_ok, sp_is, splM_ok (by decide) h.ln, Res.bind_ok, b9_all h.wd (by simp; omega), Res.bind_ok]
  unfold nums
  cases ha : (cut 32 l).all isNum with
  | false => rfl
  | true => rw [if_pos rfl, if_pos rfl, Lp.el]; rfl
end T96

/-! k96, the plain law: heads and rows -/
namespace T96
open PySem Mw SX TL
theorem gt_ok (a b : Int) : gtM (.ok a) (.ok b) = .ok (decide (b < a)) := rfl
theorem lt_ok (a b : Int) : ltM (.ok a) (.ok b) = .ok (decide (a < b)) := rfl
theorem ge_ok (a b : Int) : geM (.ok a) (.ok b) = .ok (decide (b ≤ a)) := rfl
theorem le_ok (a b : Int) : leM (.ok a) (.ok b) = .ok (decide (a ≤ b)) := rfl
theorem ne_ok {α : Type} [DecidableEq α] (a b : α) : neM (.ok a) (.ok b) = .ok (!decide (a = b)) := rfl
theorem or_ok (a b : Bool) : Mw.orM (.ok a) (.ok b) = .ok (a || b) := by cases a <;> rfl
theorem and_ok (a b : Bool) : Mw.andM (.ok a) (.ok b) = .ok (a && b) := by cases a <;> rfl
theorem not_ok (a : Bool) : Mw.notM (.ok a) = .ok (!a) := rfl
theorem or_t (m : Res Bool) : Mw.orM (.ok true) m = .ok true := rfl
theorem or_f (m : Res Bool) : Mw.orM (.ok false) m = m := rfl
theorem chain_ok (a b c : Int) : chainM (fun i j => decide (i ≤ j)) (fun i j => decide (i ≤ j)) (.ok a) (.ok b) (.ok c) = .ok (decide (a ≤ b) && decide (b ≤ c)) := by
  show (if decide (a ≤ b) = true then Res.ok (decide (b ≤ c)) else .ok false) = _
  cases decide (a ≤ b) <;> rfl
theorem chain2_ok (a b c : Int) : chainM (fun i j => decide (i ≤ j)) (fun i j => decide (i < j)) (.ok a) (.ok b) (.ok c) = .ok (decide (a ≤ b) && decide (b < c)) := by
  show (if decide (a ≤ b) = true then Res.ok (decide (b < c)) else .ok false) = _
  cases decide (a ≤ b) <;> rfl
/-- three numbers that can stand in the first line -/
def hdB (i o s : Int) : Bool := decide (i ≤ 6) && (decide (1 ≤ o) && decide (o ≤ 6)) && (decide (1 ≤ s) && decide (s ≤ 32)) && decide (s * ((2 ^ i.toNat : Nat) : Int) ≤ 1024)
def hdO : Option (List Int) → Bool
  | some [i, o, s] => hdB i o s
  | _ => false
def Nn (n : Option (List Int)) : Prop := ∀ xs, n = some xs → (∀ x ∈ xs, 0 ≤ x) ∧ xs.length < 1000000
theorem len_ok {α : Type} (xs : List α) : lenM (.ok xs) = .ok (xs.length : Int) := rfl
theorem three {xs : List Int} (h : xs.length = 3) : ∃ i o s, xs = [i, o, s] := by
  match xs, h with
  | [i, o, s], _ => exact ⟨i, o, s, rfl⟩
theorem hdO_ne {xs : List Int} (h : xs.length ≠ 3) : hdO (some xs) = false := by
  match xs, h with
  | [], _ => rfl
  | [_], _ => rfl
  | [_, _], _ => rfl
  | [_, _, _], h => exact absurd rfl h
  | _ :: _ :: _ :: _ :: _, _ => rfl
theorem shlN {x i : Int} (h0 : 0 ≤ i) (h1 : i ≤ 1000) (hx : x.natAbs < 2 ^ 64) : shlM (.ok x) (.ok i) = .ok (x * ((2 ^ i.toNat : Nat) : Int)) := by
  have e := shl_ok (x := x) (d := i.toNat) (by omega) hx
  rwa [Int.toNat_of_nonneg h0] at e
theorem is_head_ok {n : Option (List Int)} (h : Nn n) : G96.m_is_head n = .ok (hdO n) := by
  unfold G96.m_is_head
  cases n with
  | none => rfl
  | some xs =>
    obtain ⟨hx, _⟩ := h xs rfl
    rw [isNM_ok, Res.bind_ok, getM_some, len_ok, ne_ok, or_ok]
    by_cases h3 : xs.length = 3
    · obtain ⟨i, o, s, rfl⟩ := three h3
      have hi : 0 ≤ i := hx i (by simp)
      have hs : 0 ≤ s := hx s (by simp)
      show Res.ite (.ok false) _ _ = _
      rw [bif_eq, if_neg (by decide), show un3M (.ok [i, o, s]) = .ok (i, o, s) from rfl, Res.bind_ok]
      dsimp only
      rw [gt_ok, chain_ok, chain_ok, not_ok, not_ok, or_ok, or_ok, bif_eq]
      show _ = Res.ok (hdB i o s)
      unfold hdB
      by_cases a : i ≤ 6
      · by_cases b : 1 ≤ o ∧ o ≤ 6
        · by_cases c : 1 ≤ s ∧ s ≤ 32
          · rw [shlN hi (by omega) (by omega)]
            simp [a, b, c, show ¬ (6 < i) by omega, le_ok]
          · rw [if_pos (by simp; omega)]
            simp [a, b]
            omega
        · rw [if_pos (by simp; omega)]
          simp [a]
          omega
      · rw [if_pos (by simp; omega)]
        simp [a]
    · rw [hdO_ne h3, bif_eq, if_pos (by simp; omega)]
theorem law_is_head_ok {n : Option (List Int)} (h : Nn n) : G96.m_law_is_head n = .ok (hdO n) := by
  unfold G96.m_law_is_head
  cases n with
  | none => rfl
  | some xs =>
    obtain ⟨hx, _⟩ := h xs rfl
    rw [isNM_ok, Res.bind_ok, getM_some, len_ok, ne_ok]
    by_cases h3 : xs.length = 3
    · obtain ⟨i, o, s, rfl⟩ := three h3
      have hi : 0 ≤ i := hx i (by simp)
      have hs : 0 ≤ s := hx s (by simp)
      rw [show idxM (.ok [i, o, s]) (.ok (0 : Int)) = .ok i from rfl, show idxM (.ok [i, o, s]) (.ok (1 : Int)) = .ok o from rfl, show idxM (.ok [i, o, s]) (.ok (2 : Int)) = .ok s from rfl]
      rw [gt_ok, or_ok, or_ok, bif_eq, lt_ok, gt_ok, lt_ok, gt_ok, or_ok, or_ok, or_ok, bif_eq]
      show _ = Res.ok (hdB i o s)
      unfold hdB
      by_cases a : i ≤ 6
      · rw [if_neg (by simp; omega)]
        by_cases b : 1 ≤ o ∧ o ≤ 6
        · by_cases c : 1 ≤ s ∧ s ≤ 32
          · rw [if_neg (by simp; omega), shlN hi (by omega) (by decide), Int.one_mul, mul_ok (.inl (by omega)), le_ok]
            simp [a, b, c]
          · rw [if_pos (by simp; omega)]
            simp [a, b]
            omega
        · rw [if_pos (by simp; omega)]
          simp [a]
          omega
      · rw [if_pos (by simp; omega)]
        simp [a]
    · rw [hdO_ne h3]
      have : decide ((xs.length : Int) = 3) = false := decide_eq_false (by omega)
      rw [this]
      rfl
end T96

/-! k96, the plain law: rows -/
namespace T96
open PySem Mw SX TL
def prs (xs : List Int) (k : Nat) : List (Int × Int) := (List.range k).map fun j => (gx xs ((2 * j : Nat) : Int), gx xs ((2 * j + 1 : Nat) : Int))
def okP (o s : Int) (p : Int × Int) : Bool := decide (p.1 < s) && decide (p.2 < ((2 ^ o.toNat : Nat) : Int))
def rowO (i o s : Int) : Option (List Int) → Option (List (Int × Int))
  | none => none
  | some xs => if xs.length = 2 * 2 ^ i.toNat ∧ (prs xs (2 ^ i.toNat)).all (okP o s) = true then some (prs xs (2 ^ i.toNat)) else none
theorem rowO_some (i o s : Int) (xs : List Int) : rowO i o s (some xs) = if xs.length = 2 * 2 ^ i.toNat ∧ (prs xs (2 ^ i.toNat)).all (okP o s) = true then some (prs xs (2 ^ i.toNat)) else none := rfl
theorem rng3_ok {j : Int} {k : Nat} (h1 : Builtin.Range.small 0 j 2 = true) (h2 : Builtin.Range.rangeSize 0 j 2 = (k : Int)) : rng3M (.ok (0 : Int)) (.ok j) = .ok (rg2L 0 k) := by
  show (if Builtin.Range.small 0 j 2 = true ∧ 0 ≤ Builtin.Range.rangeSize 0 j 2 then Res.ok (rg2L 0 (Builtin.Range.rangeSize 0 j 2).toNat) else .stuck) = _
  rw [if_pos ⟨h1, by rw [h2]; omega⟩, h2, Int.toNat_natCast]
theorem lc_prs {xs : List Int} {q : Nat} (hl : xs.length = 2 * q) (hq : q < 1000000) : lcB (fun (x2 : Int) => .ok true) (fun (x2 : Int) => (pairM (idxM (.ok xs) (.ok x2)) (idxM (.ok xs) (addM (.ok x2) (.ok (1 : Int)))))) (.ok (rg2L 0 q)) = .ok (prs xs q) := by
  have e4 : lcB (fun (x2 : Int) => .ok true) (fun (x2 : Int) => (pairM (idxM (.ok xs) (.ok x2)) (idxM (.ok xs) (addM (.ok x2) (.ok (1 : Int)))))) (.ok (rg2L 0 q)) = .ok ((rg2L 0 q).map fun z => (gx xs z, gx xs (z + 1))) := by
    refine lcB_map _ (by rw [rg2L, List.length_map, List.length_range]; exact hq) fun z hz => ?_
    obtain ⟨j, hj, rfl⟩ := List.mem_map.mp hz
    have hj := List.mem_range.mp hj
    rw [addM_ok, idxM_gx (by omega) (by omega), idxM_gx (by omega) (by omega), pairM_ok]
  rw [e4, rg2L, List.map_map, prs]
  congr 1
  refine List.map_congr_left fun j hj => ?_
  have a1 : (0 + (j : Int) * 2) = ((2 * j : Nat) : Int) := by omega
  have a2 : (0 + (j : Int) * 2 + 1) = ((2 * j + 1 : Nat) : Int) := by omega
  show (gx xs (0 + (j : Int) * 2), gx xs (0 + (j : Int) * 2 + 1)) = _
  rw [a2, a1]
theorem lc_prs2 {xs : List Int} {q : Nat} (hl : xs.length = 2 * q) (hq : q < 1000000) : lcB (fun (x2 : Int) => .ok true) (fun (x2 : Int) => (pairM (idxM (.ok xs) (mulM (.ok (2 : Int)) (.ok x2))) (idxM (.ok xs) (addM (mulM (.ok (2 : Int)) (.ok x2)) (.ok (1 : Int)))))) (.ok (rgL 0 q)) = .ok (prs xs q) := by
  have e4 : lcB (fun (x2 : Int) => .ok true) (fun (x2 : Int) => (pairM (idxM (.ok xs) (mulM (.ok (2 : Int)) (.ok x2))) (idxM (.ok xs) (addM (mulM (.ok (2 : Int)) (.ok x2)) (.ok (1 : Int)))))) (.ok (rgL 0 q)) = .ok ((rgL 0 q).map fun z => (gx xs (2 * z), gx xs (2 * z + 1))) := by
    refine lcB_map _ (by rw [rgL_length]; exact hq) fun z hz => ?_
    have := mem_rgL.mp hz
    rw [mul_ok (.inl (by decide)), addM_ok, idxM_gx (by omega) (by omega), idxM_gx (by omega) (by omega), pairM_ok]
  rw [e4, rgL, List.map_map, prs]
  congr 1
  refine List.map_congr_left fun j hj => ?_
  have a1 : (2 * (0 + (j : Int))) = ((2 * j : Nat) : Int) := by omega
  have a2 : (2 * (0 + (j : Int)) + 1) = ((2 * j + 1 : Nat) : Int) := by omega
  show (gx xs (2 * (0 + (j : Int))), gx xs (2 * (0 + (j : Int)) + 1)) = _
  rw [a2, a1]
theorem gx_nn {xs : List Int} (h : ∀ x ∈ xs, 0 ≤ x) {k : Nat} (hk : k < xs.length) : 0 ≤ gx xs (k : Int) := by
  rw [gx_nat hk]
  exact h _ (List.getElem_mem hk)
theorem idx_nat {xs : List Int} {k : Nat} (hk : k < xs.length) {z : Int} (hz : z = (k : Int)) : idxM (.ok xs) (.ok z) = .ok (gx xs (k : Int)) := by
  rw [hz]
  exact idxM_gx (by omega) (by omega)
theorem rg2_two (d : Nat) (h : d ≤ 6) : Builtin.Range.small 0 ((2 * 2 ^ d : Nat) : Int) 2 = true ∧ Builtin.Range.rangeSize 0 ((2 * 2 ^ d : Nat) : Int) 2 = ((2 ^ d : Nat) : Int) := by
  have : ∀ d, d < 7 → Builtin.Range.small 0 ((2 * 2 ^ d : Nat) : Int) 2 = true ∧ Builtin.Range.rangeSize 0 ((2 * 2 ^ d : Nat) : Int) 2 = ((2 ^ d : Nat) : Int) := by decide +kernel
  exact this d (by omega)
theorem p2_le {d : Nat} (h : d ≤ 6) : 2 ^ d ≤ 64 := by
  have := Nat.pow_le_pow_right (show 0 < 2 by decide) h
  omega
structure Hd (i o s : Int) : Prop where
  i0 : 0 ≤ i
  i6 : i ≤ 6
  o1 : 1 ≤ o
  o6 : o ≤ 6
  s1 : 1 ≤ s
  s32 : s ≤ 32
  pr : s * ((2 ^ i.toNat : Nat) : Int) ≤ 1024
theorem hd_of {i o s : Int} (h0 : 0 ≤ i) (h : hdB i o s = true) : Hd i o s := by
  unfold hdB at h
  simp only [Bool.and_eq_true, decide_eq_true_eq] at h
  exact ⟨h0, h.1.1.1, h.1.1.2.1, h.1.1.2.2, h.1.2.1, h.1.2.2, h.2⟩
theorem is_row_ok {o s : Int} (ho : 0 ≤ o) {k : Nat} {ps : List (Int × Int)} (hl : ps.length < 1000000) (hn : ∀ p ∈ ps, 0 ≤ p.1 ∧ 0 ≤ p.2) :
    G96.m_is_row ps (k : Int) s ((2 ^ o.toNat : Nat) : Int) = .ok (decide (ps.length = k) && ps.all (okP o s)) := by
  unfold G96.m_is_row
  rw [len_ok, ne_ok, bif_eq]
  by_cases h : ps.length = k
  · have h1 : decide ((ps.length : Int) = (k : Int)) = true := decide_eq_true (by omega)
    rw [h1, if_neg (by decide), decide_eq_true h, Bool.true_and]
    have e : lcB (fun (x2 : (Int × Int)) => .ok true) (fun (x2 : (Int × Int)) => (Mw.andM (chainM (fun i j => decide (i ≤ j)) (fun i j => decide (i < j)) (.ok (0 : Int)) (.ok x2.1) (.ok s)) (chainM (fun i j => decide (i ≤ j)) (fun i j => decide (i < j)) (.ok (0 : Int)) (.ok x2.2) (.ok ((2 ^ o.toNat : Nat) : Int))))) (.ok ps) = .ok (ps.map (okP o s)) := by
      refine lcB_map _ hl fun p hp => ?_
      obtain ⟨h1, h2⟩ := hn p hp
      rw [chain2_ok, chain2_ok, and_ok, decide_eq_true h1, decide_eq_true h2]
      rfl
    rw [e, allM_ok, List.all_map]
    rfl
  · have h1 : decide ((ps.length : Int) = (k : Int)) = false := decide_eq_false (by omega)
    rw [h1, decide_eq_false h]
    rfl
theorem prs_nn {xs : List Int} {k : Nat} (h : ∀ x ∈ xs, 0 ≤ x) (hk : xs.length = 2 * k) : ∀ p ∈ prs xs k, 0 ≤ p.1 ∧ 0 ≤ p.2 := fun p hp => by
  obtain ⟨j, hj, rfl⟩ := List.mem_map.mp hp
  have := List.mem_range.mp hj
  exact ⟨gx_nn h (by omega), gx_nn h (by omega)⟩
theorem prs_len (xs : List Int) (k : Nat) : (prs xs k).length = k := by simp [prs]
theorem row_of_ok {i o s : Int} (H : Hd i o s) {n : Option (List Int)} (h : Nn n) : G96.m_row_of [i, o, s] n = .ok (rowO i o s n) := by
  unfold G96.m_row_of
  rw [show idxM (.ok [i, o, s]) (.ok (0 : Int)) = .ok i from rfl, show idxM (.ok [i, o, s]) (.ok (1 : Int)) = .ok o from rfl, show idxM (.ok [i, o, s]) (.ok (2 : Int)) = .ok s from rfl]
  have hi := H.i0
  have hi6 := H.i6
  have ho := H.o1
  have ho6 := H.o6
  cases n with
  | none => rfl
  | some xs =>
    obtain ⟨hx, hl⟩ := h xs rfl
    have hp := p2_le (d := i.toNat) (by omega)
    rw [isNM_ok, Res.bind_ok, getM_some, len_ok, shlN hi (by omega) (by decide), ne_ok]
    show Res.ite (Mw.orM (.ok false) _) _ _ = _
    rw [or_f, bif_eq]
    have e2 : (2 : Int) * ((2 ^ i.toNat : Nat) : Int) = ((2 * 2 ^ i.toNat : Nat) : Int) := by push_cast; rfl
    rw [e2]
    by_cases hlen : xs.length = 2 * 2 ^ i.toNat
    · have h1 : decide ((xs.length : Int) = ((2 * 2 ^ i.toNat : Nat) : Int)) = true := decide_eq_true (by rw [hlen])
      rw [h1, if_neg (by decide)]
      obtain ⟨r1, r2⟩ := rg2_two i.toNat (by omega)
      have e3 : rng3M (.ok (0 : Int)) (.ok (xs.length : Int)) = .ok (rg2L 0 (2 ^ i.toNat)) := rng3_ok (by rw [hlen]; exact r1) (by rw [hlen]; exact r2)
      rw [e3, lc_prs hlen (by omega), Res.bind_ok, Res.bind_ok, shlN hi (by omega) (by decide), shlN (by omega) (by omega) (by decide), Int.one_mul, Int.one_mul, pairM_ok, pairM_ok, pairM_ok, Res.bind_ok]
      dsimp only
      rw [is_row_ok (by omega) (by rw [prs_len]; omega) (prs_nn hx hlen), prs_len, decide_eq_true rfl, Bool.true_and, not_ok, bif_eq]
      rw [rowO_some]
      cases ha : (prs xs (2 ^ i.toNat)).all (okP o s) with
      | true => rw [if_neg (by decide), if_pos ⟨hlen, rfl⟩]; rfl
      | false => rw [if_pos (by decide), if_neg (fun z => absurd z.2 (by decide))]
    · have h1 : decide ((xs.length : Int) = ((2 * 2 ^ i.toNat : Nat) : Int)) = false := decide_eq_false (by omega)
      rw [h1, if_pos (by decide)]
      rw [rowO_some]
      rw [if_neg (fun z => hlen z.1)]
theorem b6_ok {i o s : Int} (H : Hd i o s) (p : Int × Int) : G96.m_law_row_b6 [i, o, s] p () = .ok (if okP o s p = true then .nx () else .rt none) := by
  obtain ⟨t, a⟩ := p
  have ho := H.o1
  have ho6 := H.o6
  show Res.ite (Mw.orM (geM (.ok t) (.ok s)) (geM (.ok a) (shlM (.ok (1 : Int)) (.ok o)))) (Res.bind (.ok none) fun r => .ok (Tn.rt r)) (.ok (Tn.nx ())) = _
  rw [shlN (by omega) (by omega) (by decide), Int.one_mul, ge_ok, ge_ok, or_ok, bif_eq]
  unfold okP
  dsimp only
  by_cases h1 : t < s
  · by_cases h2 : a < ((2 ^ o.toNat : Nat) : Int)
    · rw [decide_eq_true h1, decide_eq_true h2, decide_eq_false (by omega), decide_eq_false (by omega)]
      rfl
    · rw [decide_eq_true h1, decide_eq_false h2, decide_eq_false (by omega : ¬ s ≤ t), decide_eq_true (by omega)]
      rfl
  · rw [decide_eq_false h1, decide_eq_true (by omega : s ≤ t)]
    rfl
theorem b6_all {i o s : Int} (H : Hd i o s) : ∀ ps : List (Int × Int), forB (G96.m_law_row_b6 [i, o, s]) ps () = .ok (if ps.all (okP o s) = true then .nx () else .rt none)
  | [] => rfl
  | p :: ps => by
    rw [forB, b6_ok H, Res.bind_ok]
    cases h : okP o s p with
    | false => rw [List.all_cons, h]; rfl
    | true =>
      rw [List.all_cons, h, if_pos rfl]
      dsimp only
      rw [b6_all H ps]
      rfl
theorem law_row_ok {i o s : Int} (H : Hd i o s) {n : Option (List Int)} (h : Nn n) : G96.m_law_row [i, o, s] n = .ok (rowO i o s n) := by
  unfold G96.m_law_row
  rw [show idxM (.ok [i, o, s]) (.ok (0 : Int)) = .ok i from rfl]
  have hi := H.i0
  have hi6 := H.i6
  cases n with
  | none => rfl
  | some xs =>
    obtain ⟨hx, hl⟩ := h xs rfl
    have hp := p2_le (d := i.toNat) (by omega)
    rw [isNM_ok, Res.bind_ok, getM_some, len_ok, shlN hi (by omega) (by decide), Int.one_mul, mul_ok (.inl (by decide)), ne_ok]
    show Res.ite (Mw.orM (.ok false) _) _ _ = _
    have e2 : (2 : Int) * ((2 ^ i.toNat : Nat) : Int) = ((2 * 2 ^ i.toNat : Nat) : Int) := by push_cast; rfl
    rw [or_f, bif_eq, e2]
    by_cases hlen : xs.length = 2 * 2 ^ i.toNat
    · have h1 : decide ((xs.length : Int) = ((2 * 2 ^ i.toNat : Nat) : Int)) = true := decide_eq_true (by rw [hlen])
      rw [h1, if_neg (by decide), fdiv_ok (by decide) (by decide)]
      have e3 : ((xs.length : Int) / 2) = ((2 ^ i.toNat : Nat) : Int) := by omega
      rw [e3, rng1_ok (by omega), lc_prs2 hlen (by omega), Res.bind_ok, Res.bind_ok, Res.bind_ok, b6_all H, Res.bind_ok, rowO_some]
      cases ha : (prs xs (2 ^ i.toNat)).all (okP o s) with
      | true => rw [if_pos rfl, if_pos ⟨hlen, rfl⟩, Lp.el]; rfl
      | false => rw [if_neg (by decide), if_neg (fun z => absurd z.2 (by decide)), Lp.el]
    · have h1 : decide ((xs.length : Int) = ((2 * 2 ^ i.toNat : Nat) : Int)) = false := decide_eq_false (by omega)
      rw [h1, if_pos (by decide), rowO_some, if_neg (fun z => hlen z.1)]
theorem nums_nn {l : List Nat} (h : Ln l) : Nn (nums l) := fun xs e => by
  unfold nums at e
  split at e
  · cases e
    refine ⟨fun x hx => ?_, ?_⟩
    · obtain ⟨w, _, rfl⟩ := List.mem_map.mp hx
      exact Int.natCast_nonneg _
    · have := cut_len 32 l
      have := h.ln
      rw [List.length_map]
      omega
  · cases e
end T96

/-! k96, the plain law: a text read line by line -/
namespace T96
open PySem Mw SX TL
abbrev Row := List (Int × Int)
def go (i o s : Int) : List (List Nat) → Int → List Row → Sum Int (List Row)
  | [], _, rows => .inr rows
  | l :: ls, at', rows => match rowO i o s (nums l) with
    | none => .inl (at' + 1)
    | some r => if (rows.length : Int) = s then .inl (at' + 1) else go i o s ls (at' + 1) (rows ++ [r])
def enF {α : Type} : Int → List α → List (Int × α)
  | _, [] => []
  | k, x :: xs => (k, x) :: enF (k + 1) xs
theorem enF_idx {α : Type} : ∀ (xs : List α) (k : Nat), xs.mapIdx (fun i x => (((i + k : Nat) : Int), x)) = enF (k : Int) xs
  | [], k => rfl
  | x :: xs, k => by
    rw [List.mapIdx_cons, enF]
    have := enF_idx xs (k + 1)
    rw [show ((k : Int) + 1) = ((k + 1 : Nat) : Int) by push_cast; rfl, ← this]
    congr 1
    · simp
    · congr 1
      funext i y
      simp
      omega
theorem enumL_enF {α : Type} (xs : List α) : enumL xs = enF 0 xs := enF_idx xs 0
/-- what the program's loop gives -/
def prO (i o s : Int) : Sum Int (List Row) → Res (Option (List Int) × List Row)
  | .inl n => .exc 0 [("line", .int n)]
  | .inr rows => .ok (some [i, o, s], rows)
def lwO (i o s : Int) : Sum Int (List Row) → Lp (Option (List Int) × List Row) (Sum Int (Int × Int × List Row))
  | .inl n => .rt (.inl n)
  | .inr rows => .nx (some [i, o, s], rows)
theorem b14_ok {i o s : Int} (H : Hd i o s) {l : List Nat} (hl : Ln l) {k : Int} (hk : 1 ≤ k) {rows : List Row} (hr : (rows.length : Int) = k - 1) (hs : (rows.length : Int) ≤ s) :
    G96.m_read_table_b14 (k, S l) (some [i, o, s], rows) = match rowO i o s (nums l) with
      | none => .exc 0 [("line", .int (k + 1))]
      | some r => if (rows.length : Int) = s then .exc 0 [("line", .int (k + 1))] else .ok (some [i, o, s], rows ++ [r]) := by
  have hs32 := H.s32
  have hlim := lim_big
  unfold G96.m_read_table_b14
  dsimp only
  rw [Res.bind_ok, read_numbers_ok hl, Res.bind_ok, eqM_ok, decide_eq_false (by omega), bif_eq, if_neg (by decide), Res.bind_ok, getM_some, pairM_ok, Res.bind_ok]
  dsimp only
  rw [row_of_ok H (nums_nn hl), Res.bind_ok]
  cases hrow : rowO i o s (nums l) with
  | none => rfl
  | some r =>
    dsimp only
    rw [isNM_ok, show idxM (.ok [i, o, s]) (.ok (2 : Int)) = .ok s from rfl, gt_ok, or_ok, bif_eq]
    by_cases he : (rows.length : Int) = s
    · rw [if_pos he, decide_eq_true (by omega : s < k)]
      rfl
    · rw [if_neg he, decide_eq_false (by omega : ¬ s < k)]
      show appM rows (.ok r) (fun p_rows => .ok (some [i, o, s], p_rows)) = _
      rw [appM_ok _ _ _ (by omega)]
theorem loop_p {i o s : Int} (H : Hd i o s) : ∀ {ls : List (List Nat)} {k : Int} {rows : List Row}, (∀ l ∈ ls, Ln l) → 1 ≤ k → (rows.length : Int) = k - 1 → (rows.length : Int) ≤ s →
    forM G96.m_read_table_b14 (enF k (ls.map S)) (some [i, o, s], rows) = prO i o s (go i o s ls k rows)
  | [], k, rows, _, _, _, _ => rfl
  | l :: ls, k, rows, h, hk, hr, hs => by
    rw [List.map_cons, enF, Mw.forM, b14_ok H (h l (List.mem_cons_self ..)) hk hr hs, go]
    cases hrow : rowO i o s (nums l) with
    | none => rfl
    | some r =>
      dsimp only
      by_cases he : (rows.length : Int) = s
      · rw [if_pos he, if_pos he]
        rfl
      · rw [if_neg he, if_neg he, Res.bind_ok, loop_p H (fun x hx => h x (List.mem_cons_of_mem _ hx)) (by omega) (by rw [List.length_append, List.length_singleton]; push_cast; omega) (by rw [List.length_append, List.length_singleton]; push_cast; omega)]
theorem lb14_ok {i o s : Int} (H : Hd i o s) {L : List Str} {l : List Nat} (hl : Ln l) {k : Int} (hL : idxM (.ok L) (.ok k) = .ok (S l)) (hk : 1 ≤ k) {rows : List Row} (hs : (rows.length : Int) ≤ s) :
    G96.m_law_reading_b14 L k (some [i, o, s], rows) = match rowO i o s (nums l) with
      | none => .ok (.rt (.inl (k + 1)))
      | some r => if (rows.length : Int) = s then .ok (.rt (.inl (k + 1))) else .ok (.nx (some [i, o, s], rows ++ [r])) := by
  have hs32 := H.s32
  have hlim := lim_big
  unfold G96.m_law_reading_b14
  dsimp only
  rw [hL, Res.bind_ok, law_numbers_ok hl, Res.bind_ok, eqM_ok, decide_eq_false (by omega), bif_eq, if_neg (by decide), Res.bind_ok, getM_some, pairM_ok, Res.bind_ok]
  dsimp only
  rw [law_row_ok H (nums_nn hl), Res.bind_ok]
  cases hrow : rowO i o s (nums l) with
  | none => rfl
  | some r =>
    dsimp only
    rw [isNM_ok, show idxM (.ok [i, o, s]) (.ok (2 : Int)) = .ok s from rfl, len_ok, eqM_ok, or_ok, bif_eq]
    by_cases he : (rows.length : Int) = s
    · rw [if_pos he, decide_eq_true he]
      rfl
    · rw [if_neg he, decide_eq_false he]
      show appM rows (.ok r) (fun p_rows => .ok (Tn.nx (some [i, o, s], p_rows))) = _
      rw [appM_ok _ _ _ (by omega)]
theorem loop_l {i o s : Int} (H : Hd i o s) {L : List Str} : ∀ {ls : List (List Nat)} {k : Int} {rows : List Row}, (∀ l ∈ ls, Ln l) → 1 ≤ k → (rows.length : Int) ≤ s →
    (∀ (j : Nat) (l : List Nat), ls[j]? = some l → idxM (.ok L) (.ok (k + j)) = .ok (S l)) →
    forB (G96.m_law_reading_b14 L) (rgL k ls.length) (some [i, o, s], rows) = .ok (lwO i o s (go i o s ls k rows))
  | [], k, rows, _, _, _, _ => rfl
  | l :: ls, k, rows, h, hk, hs, hL => by
    rw [List.length_cons, rgL_cons, forB, lb14_ok H (h l (List.mem_cons_self ..)) (by simpa using hL 0 l rfl) hk hs, go]
    cases hrow : rowO i o s (nums l) with
    | none => rfl
    | some r =>
      dsimp only
      by_cases he : (rows.length : Int) = s
      · rw [if_pos he, if_pos he]
        rfl
      · rw [if_neg he, if_neg he, Res.bind_ok]
        dsimp only
        rw [loop_l H (fun x hx => h x (List.mem_cons_of_mem _ hx)) (by omega) (by rw [List.length_append, List.length_singleton]; push_cast; omega)
          (fun j l' hj => by
            have := hL (j + 1) l' (by simpa using hj)
            rw [show k + 1 + (j : Int) = k + ((j + 1 : Nat) : Int) by push_cast; omega]
            exact this)]
/-- the first line that cannot stand where it stands, or the table -/
def rdg (L : List (List Nat)) : Sum Int (Int × Int × List Row) :=
  match L.dropLast with
  | [] => .inl L.length
  | l :: ls => match nums l with
    | some [i, o, s] => if hdB i o s = true then (match go i o s ls 1 [] with
        | .inl n => .inl n
        | .inr rows => if L.getLast? ≠ some [] ∨ (rows.length : Int) < s then .inl L.length else .inr (i, o, rows)) else .inl 1
    | _ => .inl 1
def pO : Sum Int (Int × Int × List Row) → Res (Int × Int × List Row)
  | .inl n => .exc 0 [("line", .int n)]
  | .inr t => .ok t
theorem cut_last {α : Type} (xs : List α) (h : xs ≠ []) : cutL xs none (some (-1)) = xs.dropLast := by
  unfold cutL
  have h1 : 1 ≤ xs.length := by
    cases xs with
    | nil => exact absurd rfl h
    | cons a l => simp
  have e : HT.sIx xs.length xs.length (some (-1)) = xs.length - 1 := by
    show (if (-1 : Int) < 0 then ((-1 : Int) + (xs.length : Int)).toNat else min (-1 : Int).toNat xs.length) = _
    rw [if_pos (by decide)]
    omega
  rw [e, HT.sIx_none, List.drop_zero, Nat.sub_zero, List.dropLast_eq_take]
theorem idx_last {α : Type} [Inhabited α] {xs : List α} {y : α} (h : xs.getLast? = some y) : idxM (.ok xs) (.ok (-1)) = .ok y := by
  have hne : xs ≠ [] := fun z => by rw [z] at h; cases h
  have h1 : 1 ≤ xs.length := by
    cases xs with
    | nil => exact absurd rfl hne
    | cons a l => simp
  show optM (L2.atI xs (-1)) = _
  have e : L2.atI xs (-1) = some y := by
    show (L2.ixN xs.length (-1)).bind (fun j => xs[j]?) = _
    have : L2.ixN xs.length (-1) = some (xs.length - 1) := by
      show (if (0 : Int) ≤ -1 then _ else if -(xs.length : Int) ≤ -1 then some ((-1 : Int) + (xs.length : Int)).toNat else none) = _
      rw [if_neg (by decide), if_pos (by omega)]
      congr 1
      omega
    rw [this]
    show xs[xs.length - 1]? = _
    rw [← h, List.getLast?_eq_getElem?]
  rw [e]
  rfl
theorem neg1 : negM (.ok (1 : Int)) = .ok (-1) := rfl
end T96

/-! k96, the plain law: both readings of a text -/
namespace T96
open PySem Mw SX TL
theorem rb0 {l : List Nat} (hl : Ln l) (h0 : Option (List Int)) : G96.m_read_table_b14 (0, S l) (h0, []) = if hdO (nums l) = true then .ok (nums l, []) else .exc 0 [("line", .int 1)] := by
  unfold G96.m_read_table_b14
  dsimp only
  rw [Res.bind_ok, read_numbers_ok hl, Res.bind_ok, eqM_ok, decide_eq_true rfl, bif_eq, if_pos rfl, Res.bind_ok, is_head_ok (nums_nn hl), not_ok, bif_eq]
  cases hdO (nums l) <;> rfl
theorem lb0 {L : List Str} {l : List Nat} (hl : Ln l) (hL : idxM (.ok L) (.ok 0) = .ok (S l)) (h0 : Option (List Int)) : G96.m_law_reading_b14 L 0 (h0, []) = if hdO (nums l) = true then .ok (.nx (nums l, [])) else .ok (.rt (.inl 1)) := by
  unfold G96.m_law_reading_b14
  dsimp only
  rw [hL, Res.bind_ok, law_numbers_ok hl, Res.bind_ok, eqM_ok, decide_eq_true rfl, bif_eq, if_pos rfl, Res.bind_ok, law_is_head_ok (nums_nn hl), not_ok, bif_eq]
  cases hdO (nums l) <;> rfl
theorem hdO_some {n : Option (List Int)} (h : hdO n = true) : ∃ i o s, n = some [i, o, s] ∧ hdB i o s = true := by
  cases n with
  | none => cases h
  | some xs =>
    by_cases h3 : xs.length = 3
    · obtain ⟨i, o, s, rfl⟩ := three h3
      exact ⟨i, o, s, rfl, h⟩
    · rw [hdO_ne h3] at h; cases h
structure Tx (t : List Nat) : Prop where
  ls : ∀ l ∈ cut 10 t, Ln l
  ln : t.length < 900000
theorem dl_map {α β : Type} (f : α → β) (xs : List α) : (xs.map f).dropLast = xs.dropLast.map f := by
  rw [List.dropLast_eq_take, List.dropLast_eq_take, List.length_map, List.map_take]
theorem go_le {i o s : Int} : ∀ {ls : List (List Nat)} {k : Int} {rows r : List Row}, go i o s ls k rows = .inr r → r.length = rows.length + ls.length
  | [], k, rows, r, h => by
    cases h
    simp
  | l :: ls, k, rows, r, h => by
    rw [go] at h
    cases hrow : rowO i o s (nums l) with
    | none => rw [hrow] at h; cases h
    | some q =>
      rw [hrow] at h
      dsimp only at h
      split at h
      · cases h
      · have := go_le h
        rw [this, List.length_append, List.length_singleton, List.length_cons]
        omega
theorem max2_ok (a b : Int) : max2M (.ok a) (.ok b) = .ok (if b > a then b else a) := rfl
theorem getL {α : Type} (xs : List α) (h : xs ≠ []) : ∃ y, xs.getLast? = some y := ⟨xs.getLast h, List.getLast?_eq_some_getLast h⟩
theorem rdg_nil {L : List (List Nat)} (h : L.dropLast = []) : rdg L = .inl L.length := by
  simp only [rdg, h]
theorem rdg_bad {L : List (List Nat)} {l : List Nat} {ls : List (List Nat)} (h : L.dropLast = l :: ls) (hh : hdO (nums l) = false) : rdg L = .inl 1 := by
  simp only [rdg, h]
  split
  · rename_i i o s hn
    rw [hn] at hh
    rw [if_neg (by rw [show hdB i o s = false from hh]; decide)]
  · rfl
theorem rdg_l {L : List (List Nat)} {l : List Nat} {ls : List (List Nat)} {i o s n : Int} (h : L.dropLast = l :: ls) (hn : nums l = some [i, o, s]) (hb : hdB i o s = true) (hg : go i o s ls 1 [] = .inl n) : rdg L = .inl n := by
  simp only [rdg, h, hn, hb, hg, if_true]
theorem rdg_r {L : List (List Nat)} {l : List Nat} {ls : List (List Nat)} {i o s : Int} {rows : List Row} (h : L.dropLast = l :: ls) (hn : nums l = some [i, o, s]) (hb : hdB i o s = true) (hg : go i o s ls 1 [] = .inr rows) :
    rdg L = if L.getLast? ≠ some [] ∨ (rows.length : Int) < s then .inl L.length else .inr (i, o, rows) := by
  simp only [rdg, h, hn, hb, hg, if_true]
theorem read_table_ok {t : List Nat} (h : Tx t) : G96.m_read_table (S t) = pO (rdg (cut 10 t)) := by
  unfold G96.m_read_table
  have hlen := cut_len 10 t
  have hln := h.ln
  rw [nl_is, splM_ok (by decide) h.ln, Res.bind_ok]
  show Res.bind (.ok (some [0, 0, 0])) _ = _
  rw [Res.bind_ok, Res.bind_ok, neg1]
  show Res.bind (Res.bind (enumM (sliceM (.ok ((cut 10 t).map S)) (.ok none) (.ok (some (-1))))) _) _ = _
  rw [sliceM_ok, cut_last _ (by simp; exact cut_ne 10 t), enumM_ok, enumL_enF, Res.bind_ok, dl_map]
  obtain ⟨y, hy⟩ := getL _ (cut_ne 10 t)
  have hym : ((cut 10 t).map S).getLast? = some (S y) := by rw [List.getLast?_map, hy]; rfl
  rw [idx_last hym]
  have hmem : ∀ l ∈ (cut 10 t).dropLast, Ln l := fun l hl => h.ls l ((List.dropLast_sublist _).subset hl)
  cases hd : (cut 10 t).dropLast with
  | nil =>
    show Res.bind (.ok (some [0, 0, 0], [])) _ = _
    rw [Res.bind_ok]
    dsimp only
    rw [rdg_nil hd, emp_is, ne_ok, len_ok, Res.bind_ok, getM_some, show idxM (.ok [(0 : Int), 0, 0]) (.ok (2 : Int)) = .ok 0 from rfl, max2_ok, lt_ok, or_ok, bif_eq, if_pos (by simp), len_ok, Res.bind_ok, List.length_map]
    rfl
  | cons l ls =>
    rw [hd] at hmem
    have hl := hmem l (List.mem_cons_self ..)
    rw [List.map_cons, enF, Mw.forM, rb0 hl]
    cases hh : hdO (nums l) with
    | false =>
      rw [if_neg (by decide)]
      dsimp only
      rw [rdg_bad hd hh]
      rfl
    | true =>
      obtain ⟨i, o, s, hn, hb⟩ := hdO_some hh
      have H : Hd i o s := hd_of ((nums_nn hl _ hn).1 i (by simp)) hb
      rw [if_pos rfl, Res.bind_ok, hn, show ((0 : Int) + 1) = 1 from rfl, loop_p H (fun x hx => hmem x (List.mem_cons_of_mem _ hx)) (by omega) (by simp) (by simp; have := H.s1; omega)]
      cases hg : go i o s ls 1 [] with
      | inl n => rw [rdg_l hd hn hb hg]; rfl
      | inr rows =>
        rw [rdg_r hd hn hb hg]
        show Res.bind (.ok (some [i, o, s], rows)) _ = _
        rw [Res.bind_ok]
        dsimp only
        have hs1 := H.s1
        rw [emp_is, ne_ok, len_ok, Res.bind_ok, getM_some, show idxM (.ok [i, o, s]) (.ok (2 : Int)) = .ok s from rfl, show idxM (.ok [i, o, s]) (.ok (0 : Int)) = .ok i from rfl, show idxM (.ok [i, o, s]) (.ok (1 : Int)) = .ok o from rfl, max2_ok, lt_ok, or_ok, bif_eq, len_ok, Res.bind_ok, List.length_map, hy]
        have e1 : (if s > 1 then s else 1) = s := by split <;> omega
        rw [e1]
        have e2 : decide (S y = S []) = decide (y = []) := decide_eq_decide.mpr ⟨fun z => S_inj z, fun z => by rw [z]⟩
        rw [e2]
        by_cases hc : y = [] ∧ ¬ (rows.length : Int) < s
        · rw [if_neg (by simp [hc.1]; omega), if_neg (by simp [hc.1]; omega), Res.bind_ok, pairM_ok, pairM_ok]
          rfl
        · rw [if_pos (by
            by_cases hy0 : y = []
            · have := hc
              simp [hy0] at this ⊢
              omega
            · simp [hy0]), if_pos (by
            by_cases hy0 : y = []
            · have := hc
              simp [hy0] at this ⊢
              omega
            · exact .inl (fun z => hy0 (Option.some.inj z)))]
          rfl
end T96

/-! k96, the plain law: every text is read rightly -/
namespace T96
open PySem Mw SX TL
theorem law_reading_ok {t : List Nat} (h : Tx t) : G96.m_law_reading (S t) = .ok (rdg (cut 10 t)) := by
  unfold G96.m_law_reading
  have hlen := cut_len 10 t
  have hln := h.ln
  rw [nl_is, splM_ok (by decide) h.ln, Res.bind_ok, Res.bind_ok, Res.bind_ok, len_ok, List.length_map, subM_ok, neg1]
  obtain ⟨y, hy⟩ := getL _ (cut_ne 10 t)
  have hym : ((cut 10 t).map S).getLast? = some (S y) := by rw [List.getLast?_map, hy]; rfl
  rw [idx_last hym]
  have h1 : 1 ≤ (cut 10 t).length := by
    cases hc : cut 10 t with
    | nil => exact absurd hc (cut_ne 10 t)
    | cons a l => simp
  have e0 : ((cut 10 t).length : Int) - 1 = ((cut 10 t).dropLast.length : Int) := by rw [List.length_dropLast]; omega
  rw [e0, rng1_ok (by rw [List.length_dropLast]; omega), Res.bind_ok]
  have hmem : ∀ l ∈ (cut 10 t).dropLast, Ln l := fun l hl => h.ls l ((List.dropLast_sublist _).subset hl)
  have hix : ∀ (j : Nat) (l : List Nat), (cut 10 t).dropLast[j]? = some l → idxM (.ok ((cut 10 t).map S)) (.ok (j : Int)) = .ok (S l) := fun j l hj => by
    obtain ⟨hlt, he⟩ := List.getElem?_eq_some_iff.mp hj
    have hlt2 : j < (cut 10 t).length := by rw [List.length_dropLast] at hlt; omega
    have e2 : (cut 10 t)[j] = l := by rw [← he, List.getElem_dropLast]
    show optM (L2.atI ((cut 10 t).map S) (j : Int)) = _
    have : L2.atI ((cut 10 t).map S) (j : Int) = some (S l) := by
      show (L2.ixN ((cut 10 t).map S).length (j : Int)).bind (fun j => ((cut 10 t).map S)[j]?) = _
      have e3 : L2.ixN ((cut 10 t).map S).length (j : Int) = some j := by
        show (if (0 : Int) ≤ (j : Int) then (if (j : Int) < (((cut 10 t).map S).length : Int) then some (j : Int).toNat else none) else _) = _
        rw [if_pos (by omega), if_pos (by rw [List.length_map]; omega), Int.toNat_natCast]
      rw [e3]
      show ((cut 10 t).map S)[j]? = _
      rw [List.getElem?_map, List.getElem?_eq_getElem hlt2, e2]
      rfl
    rw [this]
    rfl
  cases hd : (cut 10 t).dropLast with
  | nil =>
    show Res.bind (.ok (Lp.nx (none, []))) _ = _
    rw [Res.bind_ok, Lp.el]
    dsimp only
    rw [rdg_nil hd, emp_is, ne_ok, isNM_ok]
    show Res.ite (Mw.orM (.ok (!decide (S y = S []))) (.ok true)) _ _ = _
    rw [or_ok, Bool.or_true, bif_eq, if_pos rfl]
    rfl
  | cons l ls =>
    rw [hd] at hmem hix
    have hl := hmem l (List.mem_cons_self ..)
    rw [List.length_cons, rgL_cons, forB, lb0 hl (by simpa using hix 0 l rfl)]
    cases hh : hdO (nums l) with
    | false =>
      rw [if_neg (by decide), rdg_bad hd hh]
      rfl
    | true =>
      obtain ⟨i, o, s, hn, hb⟩ := hdO_some hh
      have H : Hd i o s := hd_of ((nums_nn hl _ hn).1 i (by simp)) hb
      have hs1 := H.s1
      rw [if_pos rfl, Res.bind_ok]
      dsimp only
      rw [hn, show ((0 : Int) + 1) = 1 from rfl, loop_l H (fun x hx => hmem x (List.mem_cons_of_mem _ hx)) (by omega) (by simp; omega) (fun j l' hj => by
        have := hix (j + 1) l' (by simpa using hj)
        rw [show (1 : Int) + (j : Int) = ((j + 1 : Nat) : Int) by push_cast; omega]
        exact this), Res.bind_ok]
      cases hg : go i o s ls 1 [] with
      | inl n => rw [rdg_l hd hn hb hg]; rfl
      | inr rows =>
        rw [rdg_r hd hn hb hg]
        show Lp.el _ _ (Lp.nx (some [i, o, s], rows)) = _
        rw [Lp.el]
        dsimp only
        rw [emp_is, ne_ok, isNM_ok, len_ok, Res.bind_ok, getM_some, show idxM (.ok [i, o, s]) (.ok (2 : Int)) = .ok s from rfl, show idxM (.ok [i, o, s]) (.ok (0 : Int)) = .ok i from rfl, show idxM (.ok [i, o, s]) (.ok (1 : Int)) = .ok o from rfl, lt_ok, or_ok, or_ok, bif_eq, hy]
        have e2 : decide (S y = S []) = decide (y = []) := decide_eq_decide.mpr ⟨fun z => S_inj z, fun z => by rw [z]⟩
        rw [e2]
        by_cases hc : y = [] ∧ ¬ (rows.length : Int) < s
        · rw [if_neg (by simp [hc.1]; omega), if_neg (by simp [hc.1]; omega), Res.bind_ok, pairM_ok, pairM_ok]
          rfl
        · rw [if_pos (by
            by_cases hy0 : y = []
            · have := hc
              simp [hy0] at this ⊢
              omega
            · simp [hy0]), if_pos (by
            by_cases hy0 : y = []
            · have := hc
              simp [hy0] at this ⊢
              omega
            · exact .inl (fun z => hy0 (Option.some.inj z)))]
          rfl
theorem forB_un {α ρ : Type} {f : α → Unit → Res (Tn Unit ρ)} : ∀ {xs : List α}, (∀ x ∈ xs, f x () = .ok (.nx ())) → forB f xs () = .ok (.nx ())
  | [], _ => rfl
  | x :: xs, h => by
    rw [forB, h x (List.mem_cons_self ..), Res.bind_ok]
    exact forB_un fun y hy => h y (List.mem_cons_of_mem _ hy)
theorem same_tb (t : Int × Int × List Row) : G96.m_law_same_table t t = .ok true := by
  unfold G96.m_law_same_table
  have e1 : forB G96.m_law_same_table_b9 t.2.2 () = .ok (.nx ()) := forB_un fun r hr => by
    unfold G96.m_law_same_table_b9
    have e2 : forB G96.m_law_same_table_b8 r () = .ok (.nx ()) := forB_un fun p hp => rfl
    rw [Res.bind_ok, not_ok, bif_eq, if_neg (by simp), Res.bind_ok, e2, Res.bind_ok, Lp.el]
  have e0 : (Res.ite (Mw.orM (Mw.notM (Res.bind (.ok t) fun _ => .ok true)) (Mw.orM (neM (Res.bind (.ok t) fun _ => .ok (3 : Int)) (.ok (3 : Int))) (Mw.notM (Res.bind (Res.bind (.ok t) fun a => .ok a.2.2) fun _ => .ok true)))) : Res Bool → Res Bool → Res Bool) = fun _ b => b := rfl
  rw [e0]
  dsimp only
  have e3 : (Res.ite (Mw.orM (Mw.notM (Res.bind (someM (Res.bind (.ok t) fun a => .ok a.1)) fun a => m_law_is_integer a)) (Mw.notM (Res.bind (someM (Res.bind (.ok t) fun a => .ok a.2.1)) fun a => m_law_is_integer a))) : Res Bool → Res Bool → Res Bool) = fun _ b => b := rfl
  rw [e3]
  dsimp only
  rw [Res.bind_ok, Res.bind_ok, e1, Res.bind_ok, Lp.el, eqM_ok, decide_eq_true rfl]
theorem line_eq : ((Str.ofString "line") = (Str.ofString "line")) := rfl
theorem right_ok {t : List Nat} (h : Tx t) : G96.m_law_right_text (S t) = .ok true := by
  unfold G96.m_law_right_text
  rw [Res.bind_ok, law_reading_ok h, Res.bind_ok, Res.bind_ok, Res.bind_ok, read_table_ok h]
  cases hr : rdg (cut 10 t) with
  | inr tb =>
    rw [bif_eq, if_pos (show isr (Sum.inr tb : Sum Int (Int × Int × List Row)) = true from rfl)]
    show Res.bind (pairM (.ok tb) (.ok tb)) _ = _
    rw [pairM_ok, Res.bind_ok]
    exact same_tb tb
  | inl n =>
    rw [bif_eq, if_neg (show ¬ isr (Sum.inl n : Sum Int (Int × Int × List Row)) = true from fun z => by cases z)]
    have e : pO (.inl n) = .exc 0 [("line", .int n)] := rfl
    rw [e]
    have e2 : (Res.bind (Res.exc 0 [("line", L2.V.int n)] : Res (Int × Int × List Row)) fun _ => Res.ok ()) = .exc 0 [("line", L2.V.int n)] := rfl
    rw [e2, tryM, errL]
    rw [if_pos rfl]
    show Mw.andM (.ok true) (eqM (.ok n) (.ok n)) = _
    rw [eqM_ok, and_ok, decide_eq_true rfl]
    rfl
end T96

/-! k96, the plain law: sizes of texts and of their words -/
namespace T96
open PySem Mw SX TL
abbrev sep (c : Nat) : Prop := c = 32 ∨ c = 10
/-- no word is longer than n, k signs of the first one stand ahead -/
def runs (n : Nat) : Nat → List Nat → Bool
  | _, [] => true
  | k, c :: l => if sep c then runs n 0 l else decide (k + 1 ≤ n) && runs n (k + 1) l
theorem runs_le {n : Nat} : ∀ {l : List Nat} {k j : Nat}, j ≤ k → runs n k l = true → runs n j l = true
  | [], _, _, _, _ => rfl
  | c :: l, k, j, h, e => by
    unfold runs at e ⊢
    split at e
    · rename_i hc; rw [if_pos hc]; exact e
    · rename_i hc
      rw [if_neg hc]
      simp only [Bool.and_eq_true, decide_eq_true_eq] at e ⊢
      exact ⟨by omega, runs_le (by omega) e.2⟩
theorem runs_sep {n : Nat} {s : Nat} (hs : sep s) : ∀ {a b : List Nat} {k : Nat}, runs n k a = true → runs n 0 b = true → runs n k (a ++ s :: b) = true
  | [], b, k, _, hb => by
    show runs n k (s :: b) = true
    unfold runs
    rw [if_pos hs]; exact hb
  | c :: a, b, k, ha, hb => by
    show runs n k (c :: (a ++ s :: b)) = true
    unfold runs at ha ⊢
    split at ha
    · rename_i hc; rw [if_pos hc]; exact runs_sep hs ha hb
    · rename_i hc
      rw [if_neg hc]
      simp only [Bool.and_eq_true, decide_eq_true_eq] at ha ⊢
      exact ⟨ha.1, runs_sep hs ha.2 hb⟩
theorem runs_up {n m : Nat} : ∀ {b : List Nat} {i j : Nat}, j ≤ n → runs m i b = true → runs (n + m) (i + j) b = true
  | [], _, _, _, _ => rfl
  | c :: b, i, j, hj, h => by
    unfold runs at h ⊢
    split at h
    · rename_i hc; rw [if_pos hc]; exact runs_le (Nat.zero_le _) (runs_up (i := 0) (j := 0) (Nat.zero_le _) h)
    · rename_i hc
      rw [if_neg hc]
      simp only [Bool.and_eq_true, decide_eq_true_eq] at h ⊢
      refine ⟨by omega, ?_⟩
      have := runs_up (i := i + 1) (j := j) hj h.2
      rwa [show i + 1 + j = i + j + 1 by omega] at this
theorem runs_app {n m : Nat} : ∀ {a b : List Nat} {k : Nat}, k ≤ n → runs n k a = true → runs m 0 b = true → runs (n + m) k (a ++ b) = true
  | [], b, k, hk, _, hb => by
    have := runs_up (i := 0) hk hb
    rwa [Nat.zero_add] at this
  | c :: a, b, k, hk, ha, hb => by
    show runs (n + m) k (c :: (a ++ b)) = true
    unfold runs at ha ⊢
    split at ha
    · rename_i hc; rw [if_pos hc]; exact runs_app (Nat.zero_le _) ha hb
    · rename_i hc
      rw [if_neg hc]
      simp only [Bool.and_eq_true, decide_eq_true_eq] at ha ⊢
      exact ⟨by omega, runs_app ha.1 ha.2 hb⟩
theorem runs_mono {n m : Nat} (h : n ≤ m) {l : List Nat} (e : runs n 0 l = true) : runs m 0 l = true := by
  have := runs_up (n := m - n) (i := 0) (j := 0) (Nat.zero_le _) e
  rwa [show m - n + n = m by omega] at this
theorem runs_left {n : Nat} : ∀ {a b : List Nat} {k : Nat}, runs n k (a ++ b) = true → runs n k a = true
  | [], _, _, _ => rfl
  | c :: a, b, k, h => by
    have h : runs n k (c :: (a ++ b)) = true := h
    unfold runs at h ⊢
    split at h
    · rename_i hc; rw [if_pos hc]; exact runs_left h
    · rename_i hc
      rw [if_neg hc]
      simp only [Bool.and_eq_true, decide_eq_true_eq] at h ⊢
      exact ⟨h.1, runs_left h.2⟩
theorem runs_right {n : Nat} : ∀ {a b : List Nat} {k : Nat}, runs n k (a ++ b) = true → runs n 0 b = true
  | [], b, k, h => runs_le (Nat.zero_le _) h
  | c :: a, b, k, h => by
    have h : runs n k (c :: (a ++ b)) = true := h
    unfold runs at h
    split at h
    · exact runs_right h
    · simp only [Bool.and_eq_true, decide_eq_true_eq] at h
      exact runs_right h.2
theorem runs_cut {n c : Nat} (hc : sep c) : ∀ {l : List Nat} {k : Nat}, runs n k l = true → match cut c l with | p :: ps => runs n k p = true ∧ ∀ q ∈ ps, runs n 0 q = true | [] => True
  | [], k, _ => ⟨rfl, fun q hq => by cases hq⟩
  | x :: l, k, h => by
    unfold runs at h
    by_cases hx : x = c
    · have e : cut c (x :: l) = [] :: cut c l := by rw [cut, if_pos hx]
      rw [e]
      rw [if_pos (by rw [hx]; exact hc)] at h
      have ih := runs_cut hc (k := 0) h
      refine ⟨rfl, fun q hq => ?_⟩
      cases hk : cut c l with
      | nil => exact absurd hk (cut_ne c l)
      | cons p ps =>
        rw [hk] at ih hq
        rcases List.mem_cons.mp hq with z | z
        · rw [z]; exact ih.1
        · exact ih.2 q z
    · cases hk : cut c l with
      | nil => exact absurd hk (cut_ne c l)
      | cons p ps =>
        have e : cut c (x :: l) = (x :: p) :: ps := by rw [cut, if_neg hx, hk]
        rw [e]
        split at h
        · rename_i hs
          have ih := runs_cut hc (k := 0) h
          rw [hk] at ih
          refine ⟨?_, ih.2⟩
          unfold runs
          rw [if_pos hs]; exact ih.1
        · rename_i hs
          simp only [Bool.and_eq_true, decide_eq_true_eq] at h
          have ih := runs_cut hc h.2
          rw [hk] at ih
          refine ⟨?_, ih.2⟩
          unfold runs
          rw [if_neg hs]
          simp only [Bool.and_eq_true, decide_eq_true_eq]
          exact ⟨h.1, ih.1⟩
theorem runs_part {n c : Nat} (hc : sep c) {l p : List Nat} (h : runs n 0 l = true) (hp : p ∈ cut c l) : runs n 0 p = true := by
  have q := runs_cut hc h
  cases hk : cut c l with
  | nil => exact absurd hk (cut_ne c l)
  | cons a as =>
    rw [hk] at q hp
    rcases List.mem_cons.mp hp with z | z
    · rw [z]; exact q.1
    · exact q.2 p z
theorem runs_len {n : Nat} : ∀ {w : List Nat} {k : Nat}, (∀ c ∈ w, ¬ sep c) → k ≤ n → runs n k w = true → k + w.length ≤ n
  | [], k, _, hk, _ => hk
  | c :: w, k, h, hk, e => by
    unfold runs at e
    rw [if_neg (h c (List.mem_cons_self ..))] at e
    simp only [Bool.and_eq_true, decide_eq_true_eq] at e
    have := runs_len (fun x hx => h x (List.mem_cons_of_mem _ hx)) e.1 e.2
    rw [List.length_cons]
    omega
theorem runs_short {n : Nat} : ∀ {w : List Nat} {k : Nat}, k + w.length ≤ n → runs n k w = true
  | [], _, _ => rfl
  | c :: w, k, h => by
    rw [List.length_cons] at h
    unfold runs
    split
    · exact runs_short (by omega)
    · simp only [Bool.and_eq_true, decide_eq_true_eq]
      exact ⟨by omega, runs_short (by omega)⟩
/-- a text of at most L signs, its words of at most n -/
structure Gd (L n : Nat) (t : List Nat) : Prop where
  ln : t.length ≤ L
  rn : runs n 0 t = true
  ch : ∀ c ∈ t, c < 128
theorem cut_ln {c : Nat} : ∀ {l p : List Nat}, p ∈ cut c l → p.length ≤ l.length
  | [], p, h => by
    simp [cut] at h
    rw [h]
    simp
  | x :: l, p, h => by
    unfold cut at h
    split at h
    · rcases List.mem_cons.mp h with h | h
      · rw [h]; simp
      · have := cut_ln h
        rw [List.length_cons]; omega
    · cases hk : cut c l with
      | nil => exact absurd hk (cut_ne c l)
      | cons q qs =>
        rw [hk] at h
        rcases List.mem_cons.mp h with h | h
        · have := cut_ln (l := l) (p := q) (by rw [hk]; exact List.mem_cons_self ..)
          rw [h, List.length_cons, List.length_cons]; omega
        · have := cut_ln (l := l) (p := p) (by rw [hk]; exact List.mem_cons_of_mem _ h)
          rw [List.length_cons]; omega
theorem Gd.part {L n c : Nat} (hc : sep c) {t p : List Nat} (g : Gd L n t) (hp : p ∈ cut c t) : Gd L n p :=
  ⟨Nat.le_trans (cut_ln hp) g.ln, runs_part hc g.rn hp, fun x hx => g.ch x (cut_mem hp x hx).1⟩
theorem Gd.tx {L n : Nat} {t : List Nat} (g : Gd L n t) (hL : L < 900000) (hn : n ≤ 500) : Tx t := by
  refine ⟨fun l hl => ?_, by have := g.ln; omega⟩
  have gl := g.part (.inr rfl) hl
  refine ⟨gl.ch, fun w hw => ?_, by have := gl.ln; omega⟩
  have gw := gl.part (.inl rfl) hw
  have := runs_len (k := 0) (fun c hc z => by
    rcases z with z | z
    · exact (cut_mem hw c hc).2 z
    · exact (cut_mem hl c (cut_mem hw c hc).1).2 z) (Nat.zero_le _) gw.rn
  omega
theorem Gd.mono {L n L' n' : Nat} {t : List Nat} (g : Gd L n t) (h1 : L ≤ L') (h2 : n ≤ n') : Gd L' n' t := ⟨Nat.le_trans g.ln h1, runs_mono h2 g.rn, g.ch⟩
theorem Gd.sepp {L M n s : Nat} (hs : sep s) {a b : List Nat} (g : Gd L n a) (h : Gd M n b) : Gd (L + 1 + M) n (a ++ s :: b) := by
  refine ⟨?_, runs_sep hs g.rn h.rn, fun c hc => ?_⟩
  · have := g.ln
    have := h.ln
    rw [List.length_append, List.length_cons]; omega
  · rcases List.mem_append.mp hc with z | z
    · exact g.ch c z
    · rcases List.mem_cons.mp z with z | z
      · rw [z]; rcases hs with e | e <;> rw [e] <;> decide
      · exact h.ch c z
theorem Gd.app {L M n m : Nat} {a b : List Nat} (g : Gd L n a) (h : Gd M m b) : Gd (L + M) (n + m) (a ++ b) := by
  refine ⟨?_, runs_app (Nat.zero_le _) g.rn h.rn, fun c hc => ?_⟩
  · have := g.ln
    have := h.ln
    rw [List.length_append]; omega
  · rcases List.mem_append.mp hc with z | z
    · exact g.ch c z
    · exact h.ch c z
theorem Gd.take {L n : Nat} {t : List Nat} (g : Gd L n t) (k : Nat) : Gd L n (t.take k) :=
  ⟨Nat.le_trans (by rw [List.length_take]; omega) g.ln, runs_left (b := t.drop k) (by rw [List.take_append_drop]; exact g.rn), fun c hc => g.ch c (List.mem_of_mem_take hc)⟩
theorem Gd.drop {L n : Nat} {t : List Nat} (g : Gd L n t) (k : Nat) : Gd L n (t.drop k) :=
  ⟨Nat.le_trans (by rw [List.length_drop]; omega) g.ln, runs_right (a := t.take k) (k := 0) (by rw [List.take_append_drop]; exact g.rn), fun c hc => g.ch c (List.mem_of_mem_drop hc)⟩
end T96

/-! k96, the plain law: operations on texts -/
namespace T96
open PySem Mw SX TL
theorem S_app (a b : List Nat) : S a ++ S b = S (a ++ b) := ext_tl (by rw [tl_append])
theorem addS {a b : List Nat} (h : a.length + b.length ≤ 1000000) : addSM (.ok (S a)) (.ok (S b)) = .ok (S (a ++ b)) := by
  have := lim_big
  show (if (S a).length + (S b).length ≤ lim then Res.ok (S a ++ S b) else .stuck) = _
  rw [S_len, S_len, if_pos (by omega), S_app]
def tot (xs : List (List Nat)) : Nat := (xs.map List.length).sum + xs.length
theorem tot_cons (p : List Nat) (ps : List (List Nat)) : tot (p :: ps) = p.length + 1 + tot ps := by
  simp [tot]; omega
theorem tot_app (a b : List (List Nat)) : tot (a ++ b) = tot a + tot b := by
  simp [tot]; omega
theorem cut_tot (c : Nat) : ∀ l, tot (cut c l) = l.length + 1
  | [] => rfl
  | x :: l => by
    have ih := cut_tot c l
    by_cases hx : x = c
    · have e : cut c (x :: l) = [] :: cut c l := by rw [cut, if_pos hx]
      rw [e, tot_cons, ih]
      simp; omega
    · cases hk : cut c l with
      | nil => exact absurd hk (cut_ne c l)
      | cons p ps =>
        have e : cut c (x :: l) = (x :: p) :: ps := by rw [cut, if_neg hx, hk]
        rw [hk, tot_cons] at ih
        rw [e, tot_cons]
        simp; omega
theorem joinL_le (s : Nat) : ∀ xs, (joinL [s] xs).length ≤ tot xs
  | [] => by simp [joinL]
  | [p] => by simp [joinL, tot]
  | p :: q :: ps => by
    have := joinL_le s (q :: ps)
    rw [tot_cons]
    simp [joinL]
    omega
theorem joinL_gd {n s : Nat} (hs : sep s) : ∀ xs : List (List Nat), (∀ p ∈ xs, runs n 0 p = true ∧ ∀ c ∈ p, c < 128) → runs n 0 (joinL [s] xs) = true ∧ ∀ c ∈ joinL [s] xs, c < 128
  | [], _ => ⟨rfl, fun c hc => by simp [joinL] at hc⟩
  | [p], h => h p (List.mem_cons_self ..)
  | p :: q :: ps, h => by
    have ih := joinL_gd hs (q :: ps) fun x hx => h x (List.mem_cons_of_mem _ hx)
    have hp := h p (List.mem_cons_self ..)
    have e : joinL [s] (p :: q :: ps) = p ++ s :: joinL [s] (q :: ps) := by simp [joinL]
    rw [e]
    refine ⟨runs_sep hs hp.1 ih.1, fun c hc => ?_⟩
    rcases List.mem_append.mp hc with z | z
    · exact hp.2 c z
    · rcases List.mem_cons.mp z with z | z
      · rw [z]; rcases hs with e | e <;> rw [e] <;> decide
      · exact ih.2 c z
theorem Gd.join {L n s : Nat} (hs : sep s) {xs : List (List Nat)} (h : ∀ p ∈ xs, runs n 0 p = true ∧ ∀ c ∈ p, c < 128) (ht : tot xs ≤ L) : Gd L n (joinL [s] xs) :=
  have q := joinL_gd hs xs h
  ⟨Nat.le_trans (joinL_le s xs) ht, q.1, q.2⟩
theorem jn_ok {s : Nat} {xs : List (List Nat)} (h : tot xs ≤ 1000000) : jnM (.ok (S [s])) (.ok (xs.map S)) = .ok (S (joinL [s] xs)) := by
  have := lim_big
  have e : ((xs.map S).map (·.length)).sum + (xs.map S).length * (S [s]).length = tot xs := by
    rw [List.map_map, List.length_map, S_len]
    have : ((·.length) ∘ S : List Nat → Nat) = List.length := by
      funext a
      exact S_len a
    rw [this]
    simp [tot]
  show (if ((xs.map S).map (·.length)).sum + (xs.map S).length * (S [s]).length ≤ lim then Res.ok (Txt.join (S [s]) (xs.map S)) else .stuck) = _
  rw [e, if_pos (by omega), join_eq]
  congr 1
  apply ext_tl
  rw [tl_join, List.map_map]
  have : (tl ∘ S : List Nat → List Nat) = id := rfl
  rw [this, List.map_id]
theorem sl_to {t : List Nat} (h : t.length ≤ 1000000) {k : Int} (hk : 0 ≤ k) : slSM (.ok (S t)) (.ok none) (someM (.ok k)) = .ok (S (t.take k.toNat)) := by
  have := lim_big
  show (if (S t).length ≤ lim then Res.ok (Txt.slice (S t) none (some k)) else .stuck) = _
  rw [S_len, if_pos (by omega), slice_to hk]
theorem sl_from {t : List Nat} (h : t.length ≤ 1000000) {k : Int} (hk : 0 ≤ k) : slSM (.ok (S t)) (someM (.ok k)) (.ok none) = .ok (S (t.drop k.toNat)) := by
  have := lim_big
  show (if (S t).length ≤ lim then Res.ok (Txt.slice (S t) (some k) none) else .stuck) = _
  rw [S_len, if_pos (by omega), slice_from hk]
theorem lenS_ok {t : List Nat} (h : t.length ≤ 1000000) : lenSM (.ok (S t)) = .ok (t.length : Int) := by
  have := lim_big
  show (if (S t).length ≤ lim then Res.ok ((S t).length : Int) else .stuck) = _
  rw [S_len, if_pos (by omega)]
theorem ixS_ok {w : List Nat} (h : w.length ≤ 1000000) {i : Int} (h0 : 0 ≤ i) (h1 : i < w.length) : ∃ c ∈ w, ixSM (.ok (S w)) (.ok i) = .ok (S [c]) := by
  have := lim_big
  refine ⟨gx w i, gx_mem h0 h1, ?_⟩
  show (if (S w).length ≤ lim then _ else Res.stuck) = _
  rw [if_pos (by rw [S_len]; omega)]
  have e : L2.atI (S w).cps.toList i = some (gx w i) := atI_gx (xs := w) h0 h1
  rw [e]
/-- a number's text -/
def nt (i : Int) : List Nat := numL i.toNat
theorem str_ok {i : Int} (h0 : 0 ≤ i) (h1 : i < 10000) : strIM (.ok i) = .ok (S (nt i)) := by
  show (if i.natAbs.log2 < 1920 then Res.ok (strI i) else .stuck) = _
  have hl : i.natAbs.log2 < 1920 := by
    by_cases h0 : i.natAbs = 0
    · rw [h0]; decide
    · refine (Nat.log2_lt h0).mpr (Nat.lt_of_lt_of_le (show i.natAbs < 2 ^ 14 by omega) (Nat.pow_le_pow_right (by decide) (by decide)))
  rw [if_pos hl]
  have e : i = ((i.toNat : Nat) : Int) := by omega
  show Res.ok (Str.ofString (toString i)) = _
  rw [e, num_S]
  rfl
theorem nt_gd {i : Int} (h0 : 0 ≤ i) (h1 : i < 100) : Gd 2 2 (nt i) := by
  have hl : (nt i).length ≤ 2 := numL_len (by decide) (by omega)
  refine ⟨hl, runs_short (by omega), fun c hc => ?_⟩
  have hd := numL_digits i.toNat c hc
  omega
end T96

/-! k96, the plain law: the texts of tables -/
namespace T96
open PySem Mw SX TL
abbrev Tbl := Int × Int × List Row
/-- tables whose texts are made -/
structure OkT (t : Tbl) : Prop where
  a0 : 0 ≤ t.1
  a1 : t.1 < 100
  b0 : 0 ≤ t.2.1
  b1 : t.2.1 < 100
  r : t.2.2.length ≤ 32
  rw : ∀ r ∈ t.2.2, r.length ≤ 64
  pr : ∀ r ∈ t.2.2, ∀ p ∈ r, 0 ≤ p.1 ∧ p.1 < 100 ∧ 0 ≤ p.2 ∧ p.2 < 100
def pairT (p : Int × Int) : List Nat := nt p.1 ++ 32 :: nt p.2
def rowT (r : Row) : List Nat := joinL [32] (r.map pairT) ++ [10]
def headT (t : Tbl) : List Nat := joinL [32] [nt t.1, nt t.2.1, nt (t.2.2.length : Int)] ++ [10]
def txt (t : Tbl) : List Nat := t.2.2.foldl (fun x r => x ++ rowT r) (headT t)
theorem pair_gd {p : Int × Int} (h : 0 ≤ p.1 ∧ p.1 < 100 ∧ 0 ≤ p.2 ∧ p.2 < 100) : Gd 5 2 (pairT p) :=
  (nt_gd h.1 h.2.1).sepp (.inl rfl) (nt_gd h.2.2.1 h.2.2.2)
theorem tot_le {m : Nat} : ∀ {xs : List (List Nat)}, (∀ p ∈ xs, p.length ≤ m) → tot xs ≤ (m + 1) * xs.length
  | [], _ => by simp [tot]
  | p :: ps, h => by
    have := tot_le (m := m) (xs := ps) fun q hq => h q (List.mem_cons_of_mem _ hq)
    have := h p (List.mem_cons_self ..)
    rw [tot_cons, List.length_cons, Nat.mul_succ]
    omega
theorem nil_gd : Gd 0 2 [] := ⟨Nat.le_refl _, rfl, fun c hc => by cases hc⟩
theorem rowj {r : Row} (h1 : r.length ≤ 64) (h2 : ∀ p ∈ r, 0 ≤ p.1 ∧ p.1 < 100 ∧ 0 ≤ p.2 ∧ p.2 < 100) : tot (r.map pairT) ≤ 384 ∧ Gd 384 2 (joinL [32] (r.map pairT)) := by
  have ht : tot (r.map pairT) ≤ 384 := by
    have := tot_le (m := 5) (xs := r.map pairT) fun q hq => by
      obtain ⟨p, hp, rfl⟩ := List.mem_map.mp hq
      exact (pair_gd (h2 p hp)).ln
    rw [List.length_map] at this
    omega
  refine ⟨ht, Gd.join (.inl rfl) (fun q hq => ?_) ht⟩
  obtain ⟨p, hp, rfl⟩ := List.mem_map.mp hq
  exact ⟨(pair_gd (h2 p hp)).rn, (pair_gd (h2 p hp)).ch⟩
theorem row_gd {r : Row} (h1 : r.length ≤ 64) (h2 : ∀ p ∈ r, 0 ≤ p.1 ∧ p.1 < 100 ∧ 0 ≤ p.2 ∧ p.2 < 100) : Gd 385 2 (rowT r) :=
  ((rowj h1 h2).2.sepp (.inr rfl) nil_gd).mono (by omega) (Nat.le_refl _)
theorem head_gd {t : Tbl} (h : OkT t) : Gd 10 2 (headT t) := by
  have h3 := nt_gd (i := (t.2.2.length : Int)) (by omega) (by have := h.r; omega)
  have e : joinL [32] [nt t.1, nt t.2.1, nt (t.2.2.length : Int)] = nt t.1 ++ 32 :: (nt t.2.1 ++ 32 :: nt (t.2.2.length : Int)) := by simp [joinL]
  unfold headT
  rw [e]
  exact ((((nt_gd h.a0 h.a1).sepp (.inl rfl) ((nt_gd h.b0 h.b1).sepp (.inl rfl) h3))).sepp (.inr rfl) nil_gd).mono (by omega) (Nat.le_refl _)
theorem app_nl {L n M : Nat} {x r : List Nat} (hx : ∃ y, x = y ++ [10] ∧ Gd L n y) (g : Gd M n r) : Gd (L + 1 + M) n (x ++ r) := by
  obtain ⟨y, rfl, hy⟩ := hx
  have := hy.sepp (s := 10) (.inr rfl) g
  simpa using this
theorem fold_gd : ∀ {rs : List Row} {x : List Nat} {L : Nat}, (∃ y, x = y ++ [10] ∧ Gd L 2 y) → (∀ r ∈ rs, r.length ≤ 64 ∧ ∀ p ∈ r, 0 ≤ p.1 ∧ p.1 < 100 ∧ 0 ≤ p.2 ∧ p.2 < 100) →
    ∃ y, rs.foldl (fun x r => x ++ rowT r) x = y ++ [10] ∧ Gd (L + 385 * rs.length) 2 y
  | [], x, L, hx, _ => by simpa using hx
  | r :: rs, x, L, hx, h => by
    have hr := h r (List.mem_cons_self ..)
    have g : Gd (L + 385) 2 (x ++ joinL [32] (r.map pairT)) := (app_nl hx (rowj hr.1 hr.2).2).mono (by omega) (Nat.le_refl _)
    have := fold_gd (rs := rs) (x := x ++ rowT r) (L := L + 385) ⟨_, by rw [rowT, ← List.append_assoc], g⟩ fun q hq => h q (List.mem_cons_of_mem _ hq)
    obtain ⟨y, e, gy⟩ := this
    refine ⟨y, e, gy.mono ?_ (Nat.le_refl _)⟩
    rw [List.length_cons]; omega
theorem txt_gd {t : Tbl} (h : OkT t) : Gd 12400 2 (txt t) := by
  have hh : ∃ y, headT t = y ++ [10] ∧ Gd 8 2 y := by
    refine ⟨_, rfl, ?_⟩
    have g := head_gd h
    refine ⟨?_, ?_, fun c hc => g.ch c (by unfold headT; exact List.mem_append_left _ hc)⟩
    · have h3 := (nt_gd (i := (t.2.2.length : Int)) (by omega) (by have := h.r; omega)).ln
      have h1 := (nt_gd h.a0 h.a1).ln
      have h2 := (nt_gd h.b0 h.b1).ln
      simp [joinL]
      omega
    · exact runs_left (b := [10]) g.rn
  obtain ⟨y, e, g⟩ := fold_gd hh fun r hr => ⟨h.rw r hr, h.pr r hr⟩
  unfold txt
  rw [e]
  have := h.r
  exact (g.sepp (s := 10) (.inr rfl) nil_gd).mono (by omega) (Nat.le_refl _)
end T96

/-! k96, the plain law: both write the same text -/
namespace T96
open PySem Mw SX TL
theorem addT {a b : List Nat} {m n : Res Str} (hm : m = .ok (S a)) (hn : n = .ok (S b)) (h : a.length + b.length ≤ 1000000) : addSM m n = .ok (S (a ++ b)) := by
  rw [hm, hn, addS h]
theorem lc_txt {α : Type} {f : α → Res Str} {g : α → List Nat} {xs : List α} (hl : xs.length < 1000000) (h : ∀ x ∈ xs, f x = .ok (S (g x))) : lcB (fun _ => .ok true) f (.ok xs) = .ok ((xs.map g).map S) := by
  rw [lcB_map (fun x => S (g x)) hl h, List.map_map]
  rfl
theorem row_law {r : Row} (h1 : r.length ≤ 64) (h2 : ∀ p ∈ r, 0 ≤ p.1 ∧ p.1 < 100 ∧ 0 ≤ p.2 ∧ p.2 < 100) {x : List Nat} (hx : x.length ≤ 100000) : G96.m_law_text_b6 r (S x) = .ok (S (x ++ rowT r)) := by
  unfold G96.m_law_text_b6
  obtain ⟨ht, hg⟩ := rowj h1 h2
  have hj := hg.ln
  have e1 : lcB (fun (x4 : (Int × Int)) => .ok true) (fun (x4 : (Int × Int)) => (addSM (addSM (strIM (Res.bind (.ok x4) fun a => .ok a.1)) (.ok (" " : Str))) (strIM (Res.bind (.ok x4) fun a => .ok a.2)))) (.ok r) = .ok ((r.map pairT).map S) := by
    refine lc_txt (by omega) fun p hp => ?_
    have q := h2 p hp
    have l1 := (nt_gd q.1 q.2.1).ln
    have l2 := (nt_gd q.2.2.1 q.2.2.2).ln
    rw [sp_is, Res.bind_ok, Res.bind_ok, addT (addT (str_ok q.1 (by omega)) rfl (by simp; omega)) (str_ok q.2.2.1 (by omega)) (by simp; omega)]
    unfold pairT
    simp
  rw [e1, nl_is, sp_is, jn_ok (by omega), addT (addT rfl rfl (by omega)) rfl (by simp; omega), Res.bind_ok]
  unfold rowT
  simp
theorem fold_law : ∀ {rs : List Row} {x : List Nat}, x.length + 385 * rs.length ≤ 100000 → (∀ r ∈ rs, r.length ≤ 64 ∧ ∀ p ∈ r, 0 ≤ p.1 ∧ p.1 < 100 ∧ 0 ≤ p.2 ∧ p.2 < 100) →
    Mw.forM G96.m_law_text_b6 rs (S x) = .ok (S (rs.foldl (fun x r => x ++ rowT r) x))
  | [], x, _, _ => rfl
  | r :: rs, x, hx, h => by
    have hr := h r (List.mem_cons_self ..)
    have hg := (row_gd hr.1 hr.2).ln
    rw [List.length_cons] at hx
    rw [Mw.forM, row_law hr.1 hr.2 (by omega), Res.bind_ok, fold_law (by rw [List.length_append]; omega) fun q hq => h q (List.mem_cons_of_mem _ hq)]
    rfl
theorem law_text_ok {t : Tbl} (h : OkT t) : G96.m_law_text t = .ok (S (txt t)) := by
  unfold G96.m_law_text
  have hr := h.r
  have hg := head_gd h
  have e0 : (consM (Res.bind (.ok t) fun a => .ok a.1) (consM (Res.bind (.ok t) fun a => .ok a.2.1) (consM (lenM (Res.bind (.ok t) fun a => .ok a.2.2)) (.ok [])))) = .ok [t.1, t.2.1, (t.2.2.length : Int)] := rfl
  have e1 : lcB (fun (x1 : Int) => .ok true) (fun (x1 : Int) => (strIM (.ok x1))) (.ok [t.1, t.2.1, (t.2.2.length : Int)]) = .ok (([t.1, t.2.1, (t.2.2.length : Int)].map nt).map S) := by
    refine lc_txt (by simp) fun i hi => ?_
    have : 0 ≤ i ∧ i < 100 := by
      simp at hi
      rcases hi with rfl | rfl | rfl
      · exact ⟨h.a0, h.a1⟩
      · exact ⟨h.b0, h.b1⟩
      · omega
    exact str_ok this.1 (by omega)
  have hj : (joinL [32] [nt t.1, nt t.2.1, nt (t.2.2.length : Int)]).length ≤ 10 := by
    have := hg.ln
    unfold headT at this
    rw [List.length_append] at this
    omega
  have ht : tot ([t.1, t.2.1, (t.2.2.length : Int)].map nt) ≤ 1000000 := by
    have h3 := (nt_gd (i := (t.2.2.length : Int)) (by omega) (by omega)).ln
    have h1 := (nt_gd h.a0 h.a1).ln
    have h2 := (nt_gd h.b0 h.b1).ln
    simp [tot]
    omega
  rw [e0, e1, sp_is, nl_is, jn_ok ht, addT rfl rfl (by show (joinL [32] [nt t.1, nt t.2.1, nt (t.2.2.length : Int)]).length + 1 ≤ _; omega), Res.bind_ok, Res.bind_ok, Res.bind_ok]
  have := hg.ln
  show Res.bind (Mw.forM G96.m_law_text_b6 t.2.2 (S (headT t))) _ = _
  rw [fold_law (by omega) fun r hr => ⟨h.rw r hr, h.pr r hr⟩, Res.bind_ok]
  rfl
theorem hL {a : List Nat} (h : a.length ≤ 1000000) : (S a).length ≤ lim := by
  have := lim_big
  rw [S_len]; omega
theorem emp_S : Str.empty = S [] := rfl
theorem row_wr {r : Row} (h1 : r.length ≤ 64) (h2 : ∀ p ∈ r, 0 ≤ p.1 ∧ p.1 < 100 ∧ 0 ≤ p.2 ∧ p.2 < 100) {x : List Nat} (hx : x.length ≤ 100000) : G96.m_write_table_b5 r (S x) = .ok (S (x ++ rowT r)) := by
  unfold G96.m_write_table_b5
  obtain ⟨ht, hg⟩ := rowj h1 h2
  have hj := hg.ln
  have hlim := lim_big
  have e1 : lcB (fun (x3 : (Int × Int)) => .ok true) (fun (x3 : (Int × Int)) => ((fun acc => Res.bind (strIM (.ok x3.1)) fun y => if (acc ++ y).length ≤ lim then (fun acc => Res.bind (.ok (" " : Str)) fun y => if (acc ++ y).length ≤ lim then (fun acc => Res.bind (strIM (.ok x3.2)) fun y => if (acc ++ y).length ≤ lim then (fun acc => .ok acc) (acc ++ y) else .stuck) (acc ++ y) else .stuck) (acc ++ y) else .stuck) Str.empty)) (.ok r) = .ok ((r.map pairT).map S) := by
    refine lc_txt (by omega) fun p hp => ?_
    have q := h2 p hp
    have l1 := (nt_gd q.1 q.2.1).ln
    have l2 := (nt_gd q.2.2.1 q.2.2.2).ln
    dsimp only
    rw [emp_S, str_ok q.1 (by omega), Res.bind_ok, S_app, if_pos (hL (by simp; omega)), sp_is, Res.bind_ok, S_app, if_pos (hL (by simp; omega)), str_ok q.2.2.1 (by omega), Res.bind_ok, S_app, if_pos (hL (by simp; omega))]
    unfold pairT
    simp
  rw [e1, nl_is, sp_is, jn_ok (by omega), addT rfl rfl (by simp; omega)]
  show (if (S x).length + (S (joinL [32] (r.map pairT) ++ [10])).length ≤ lim then Res.ok (S x ++ S (joinL [32] (r.map pairT) ++ [10])) else .stuck) = _
  rw [S_len, S_len, if_pos (by simp; omega), S_app]
  rfl
theorem fold_wr : ∀ {rs : List Row} {x : List Nat}, x.length + 385 * rs.length ≤ 100000 → (∀ r ∈ rs, r.length ≤ 64 ∧ ∀ p ∈ r, 0 ≤ p.1 ∧ p.1 < 100 ∧ 0 ≤ p.2 ∧ p.2 < 100) →
    Mw.forM G96.m_write_table_b5 rs (S x) = .ok (S (rs.foldl (fun x r => x ++ rowT r) x))
  | [], x, _, _ => rfl
  | r :: rs, x, hx, h => by
    have hr := h r (List.mem_cons_self ..)
    have hg := (row_gd hr.1 hr.2).ln
    rw [List.length_cons] at hx
    rw [Mw.forM, row_wr hr.1 hr.2 (by omega), Res.bind_ok, fold_wr (by rw [List.length_append]; omega) fun q hq => h q (List.mem_cons_of_mem _ hq)]
    rfl
theorem write_ok {t : Tbl} (h : OkT t) : G96.m_write_table t = .ok (S (txt t)) := by
  unfold G96.m_write_table
  have hr := h.r
  have hg := (head_gd h).ln
  have h3 := (nt_gd (i := (t.2.2.length : Int)) (by omega) (by omega)).ln
  have h1 := (nt_gd h.a0 h.a1).ln
  have h2 := (nt_gd h.b0 h.b1).ln
  have es : G96.m_state_count t = .ok (t.2.2.length : Int) := rfl
  dsimp only
  rw [show (Res.bind (.ok t) fun a => .ok a.1) = .ok t.1 from rfl, show (Res.bind (.ok t) fun a => .ok a.2.1) = .ok t.2.1 from rfl, show (Res.bind (.ok t) fun a => G96.m_state_count a) = .ok (t.2.2.length : Int) from rfl, emp_S, str_ok h.a0 (by have := h.a1; omega), Res.bind_ok, S_app, if_pos (hL (by simp; omega)), sp_is, Res.bind_ok, S_app, if_pos (hL (by simp; omega)),
    str_ok h.b0 (by have := h.b1; omega), Res.bind_ok, S_app, if_pos (hL (by simp; omega)), Res.bind_ok, S_app, if_pos (hL (by simp; omega)), str_ok (by omega) (by omega), Res.bind_ok, S_app, if_pos (hL (by simp; omega)), nl_is, Res.bind_ok, S_app, if_pos (hL (by simp; omega)), Res.bind_ok, Res.bind_ok]
  have e : ([] ++ nt t.1 ++ [32] ++ nt t.2.1 ++ [32] ++ nt (t.2.2.length : Int) ++ [10]) = headT t := by
    unfold headT
    simp [joinL]
  rw [e, Res.bind_ok, fold_wr (by omega) fun r hr => ⟨h.rw r hr, h.pr r hr⟩, Res.bind_ok]
  rfl
end T96

/-! k96, the plain law: changed texts -/
namespace T96
open PySem Mw SX TL
theorem cutL_to {α : Type} (xs : List α) (k : Nat) : cutL xs none (some (k : Int)) = xs.take k := by
  unfold cutL
  rw [HT.sIx_nat, HT.sIx_none, List.drop_zero, Nat.sub_zero]
  by_cases h : k ≤ xs.length
  · rw [Nat.min_eq_left h]
  · rw [Nat.min_eq_right (by omega), List.take_of_length_le (Nat.le_refl _), List.take_of_length_le (by omega)]
theorem cutL_from {α : Type} (xs : List α) (k : Nat) : cutL xs (some (k : Int)) none = xs.drop k := by
  unfold cutL
  rw [HT.sIx_nat, HT.sIx_none]
  by_cases h : k ≤ xs.length
  · rw [Nat.min_eq_left h, List.take_of_length_le (by rw [List.length_drop]; omega)]
  · rw [Nat.min_eq_right (by omega), List.drop_eq_nil_of_le (Nat.le_refl _), List.drop_eq_nil_of_le (by omega), List.take_nil]
/-- an operation on texts that ends well -/
def Ends (L n : Nat) (m : Res Str) : Prop := ∃ t', m = .ok (S t') ∧ Gd (3 * L + 60) (2 * n + 40) t'
theorem one_gd {c : Nat} (h : c < 128) : Gd 1 1 [c] := ⟨Nat.le_refl _, runs_short (by simp), fun x hx => by
  rw [List.mem_singleton.mp hx]; exact h⟩
theorem sg_is : (("0123456789 \n-+a " : Str)) = S [48, 49, 50, 51, 52, 53, 54, 55, 56, 57, 32, 10, 45, 43, 97, 32] := by decide +kernel
theorem sign_ok {a b c d e : Int} {L n : Nat} {t : List Nat} (g : Gd L n t) (hL : L ≤ 120000) : Ends L n (G96.m_law_sign_changed (S t) [a, b, c, d, e]) := by
  unfold G96.m_law_sign_changed
  have hl := g.ln
  rw [show idxM (.ok [a, b, c, d, e]) (.ok (0 : Int)) = .ok a from rfl, show idxM (.ok [a, b, c, d, e]) (.ok (1 : Int)) = .ok b from rfl, show idxM (.ok [a, b, c, d, e]) (.ok (2 : Int)) = .ok c from rfl]
  rw [Res.bind_ok, mod_ok (by decide), sg_is]
  obtain ⟨x, hx, ex⟩ := ixS_ok (w := [48, 49, 50, 51, 52, 53, 54, 55, 56, 57, 32, 10, 45, 43, 97, 32]) (by simp) (i := b % 16) (Int.emod_nonneg _ (by decide)) (by have := Int.emod_lt_of_pos b (show (0 : Int) < 16 by decide); simp; omega)
  have hx2 : x < 128 := by
    simp at hx
    omega
  rw [ex, Res.bind_ok, Res.bind_ok, lenS_ok (by omega), addM_ok, mod_ok (by omega), Res.bind_ok]
  have k0 := Int.emod_nonneg c (show (t.length : Int) + 1 ≠ 0 by omega)
  generalize c % ((t.length : Int) + 1) = k at k0
  rw [sl_to (by omega) k0, addM_ok, sl_from (by omega) k0, sl_from (by omega) (by omega), eqM_ok, eqM_ok, bif_eq, bif_eq]
  have h1 := (g.take k.toNat).ln
  have h2 := (g.drop k.toNat).ln
  have h3 := (g.drop (k + 1).toNat).ln
  rw [addT (addT rfl rfl (by simp; omega)) rfl (by simp; omega), addT rfl rfl (by omega), addT (addT rfl rfl (by simp; omega)) rfl (by simp; omega)]
  split
  · exact ⟨_, rfl, (((g.take k.toNat).app (one_gd hx2)).app (g.drop k.toNat)).mono (by omega) (by omega)⟩
  · split
    · exact ⟨_, rfl, ((g.take k.toNat).app (g.drop (k + 1).toNat)).mono (by omega) (by omega)⟩
    · exact ⟨_, rfl, (((g.take k.toNat).app (one_gd hx2)).app (g.drop (k + 1).toNat)).mono (by omega) (by omega)⟩
/-- lists of texts -/
structure Gs (T n : Nat) (xs : List Str) : Prop where
  tt : tot (xs.map tl) ≤ T
  mm : ∀ x ∈ xs, runs n 0 (tl x) = true ∧ ∀ c ∈ tl x, c < 128
theorem Gs.len {T n : Nat} {xs : List Str} (g : Gs T n xs) : xs.length ≤ T := by
  have := g.tt
  unfold tot at this
  rw [List.length_map] at this
  omega
theorem back (xs : List Str) : (xs.map tl).map S = xs := by
  rw [List.map_map]
  have : (S ∘ tl : Str → Str) = id := by
    funext x
    exact mk_tl x
  rw [this, List.map_id]
theorem Gs.join {T n s : Nat} (hs : sep s) {xs : List Str} (g : Gs T n xs) (hT : T ≤ 1000000) : ∃ t', jnM (.ok (S [s])) (.ok xs) = .ok (S t') ∧ Gd T n t' := by
  refine ⟨joinL [s] (xs.map tl), ?_, Gd.join hs (fun p hp => ?_) g.tt⟩
  · have := jn_ok (s := s) (xs := xs.map tl) (by have := g.tt; omega)
    rwa [back] at this
  · obtain ⟨x, hx, rfl⟩ := List.mem_map.mp hp
    exact g.mm x hx
theorem Gs.app {T U n : Nat} {xs ys : List Str} (g : Gs T n xs) (h : Gs U n ys) : Gs (T + U) n (xs ++ ys) := by
  refine ⟨?_, fun x hx => (List.mem_append.mp hx).elim (g.mm x) (h.mm x)⟩
  have := g.tt
  have := h.tt
  rw [List.map_append, tot_app]; omega
theorem Gs.take {T n : Nat} {xs : List Str} (g : Gs T n xs) (k : Nat) : Gs T n (xs.take k) := by
  refine ⟨?_, fun x hx => g.mm x (List.mem_of_mem_take hx)⟩
  have := g.tt
  rw [← List.take_append_drop k xs, List.map_append, tot_app] at this
  omega
theorem Gs.drop {T n : Nat} {xs : List Str} (g : Gs T n xs) (k : Nat) : Gs T n (xs.drop k) := by
  refine ⟨?_, fun x hx => g.mm x (List.mem_of_mem_drop hx)⟩
  have := g.tt
  rw [← List.take_append_drop k xs, List.map_append, tot_app] at this
  omega
theorem Gs.mono {T U n m : Nat} {xs : List Str} (g : Gs T n xs) (h1 : T ≤ U) (h2 : n ≤ m) : Gs U m xs := ⟨Nat.le_trans g.tt h1, fun x hx => ⟨runs_mono h2 (g.mm x hx).1, (g.mm x hx).2⟩⟩
theorem Gs.one {L n : Nat} {t : List Nat} (g : Gd L n t) : Gs (L + 1) n [S t] := by
  refine ⟨?_, fun x hx => ?_⟩
  · have := g.ln
    show tot [t] ≤ _
    rw [tot_cons]
    simp [tot]
    omega
  · rw [List.mem_singleton.mp hx]
    exact ⟨g.rn, g.ch⟩
theorem Gd.cuts {L n c : Nat} (hc : sep c) {t : List Nat} (g : Gd L n t) : Gs (L + 1) n ((cut c t).map S) := by
  refine ⟨?_, fun x hx => ?_⟩
  · have e : ((cut c t).map S).map tl = cut c t := by
      rw [List.map_map]
      have : (tl ∘ S : List Nat → List Nat) = id := rfl
      rw [this, List.map_id]
    rw [e, cut_tot]
    have := g.ln
    omega
  · obtain ⟨p, hp, rfl⟩ := List.mem_map.mp hx
    exact ⟨(g.part hc hp).rn, (g.part hc hp).ch⟩
theorem cat_ok' {xs ys : List Str} (h : xs.length + ys.length ≤ 1000000) : catM (.ok xs) (.ok ys) = .ok (xs ++ ys) := by
  have := lim_big
  show catF xs ys = _
  unfold catF
  rw [if_pos (by omega)]
theorem ix_mem {α : Type} [Inhabited α] {xs : List α} {i : Int} (h0 : 0 ≤ i) (h1 : i < xs.length) : ∃ y ∈ xs, idxM (.ok xs) (.ok i) = .ok y := ⟨gx xs i, gx_mem h0 h1, idxM_gx h0 h1⟩
instance : Inhabited Str := ⟨S []⟩
theorem sl_to' (xs : List Str) {k : Int} (h : 0 ≤ k) : sliceM (.ok xs) (.ok none) (someM (.ok k)) = .ok (xs.take k.toNat) := by
  have e : k = ((k.toNat : Nat) : Int) := by omega
  show Res.ok (cutL xs none (some k)) = _
  rw [e, cutL_to, Int.toNat_natCast]
theorem sl_from' (xs : List Str) {k : Int} (h : 0 ≤ k) : sliceM (.ok xs) (someM (.ok k)) (.ok none) = .ok (xs.drop k.toNat) := by
  have e : k = ((k.toNat : Nat) : Int) := by omega
  show Res.ok (cutL xs (some k) none) = _
  rw [e, cutL_from, Int.toNat_natCast]
theorem cat_gs {T U n : Nat} {xs ys : List Str} (g : Gs T n xs) (h : Gs U n ys) (hT : T + U ≤ 1000000) : catM (.ok xs) (.ok ys) = .ok (xs ++ ys) :=
  cat_ok' (by have := g.len; have := h.len; omega)
theorem hd_is : ∀ z ∈ [("7 1 1" : Str), ("0 0 1" : Str), ("0 7 1" : Str), ("0 1 0" : Str), ("0 1 33" : Str), ("6 1 17" : Str), ("0 1 32" : Str), ("6 6 16" : Str), ("1 1" : Str), ("0 1 1 1" : Str), ("5 1 32" : Str)],
    (tl z).length ≤ 10 ∧ ∀ c ∈ tl z, c < 128 := by decide +kernel
theorem short_gd {z : List Nat} (h : z.length ≤ 40) (hc : ∀ c ∈ z, c < 128) : Gd 40 40 z := ⟨h, runs_short (by omega), hc⟩
theorem fin_gd {T L n m : Nat} {x : Res Str} {t' : List Nat} (e : x = .ok (S t')) (g : Gd T m t') (h1 : T ≤ 3 * L + 60) (h2 : m ≤ 2 * n + 40) : Ends L n x := ⟨t', e, g.mono h1 h2⟩
theorem line_ok {a b c d e : Int} {L n : Nat} {t : List Nat} (g : Gd L n t) (hL : L ≤ 120000) : Ends L n (G96.m_law_line_changed (S t) [a, b, c, d, e]) := by
  unfold G96.m_law_line_changed
  have hl := g.ln
  rw [show idxM (.ok [a, b, c, d, e]) (.ok (0 : Int)) = .ok a from rfl, show idxM (.ok [a, b, c, d, e]) (.ok (1 : Int)) = .ok b from rfl, show idxM (.ok [a, b, c, d, e]) (.ok (2 : Int)) = .ok c from rfl]
  rw [nl_is, splM_ok (by decide) (by omega), Res.bind_ok, Res.bind_ok, Res.bind_ok, len_ok]
  have gl := g.cuts (c := 10) (.inr rfl)
  have hn := gl.len
  have hne : 1 ≤ ((cut 10 t).map S).length := by
    rw [List.length_map]
    cases hc : cut 10 t with
    | nil => exact absurd hc (cut_ne 10 t)
    | cons x xs => simp
  generalize (cut 10 t).map S = xs at gl hn hne
  rw [mod_ok (by omega), Res.bind_ok]
  have k0 := Int.emod_nonneg b (show (xs.length : Int) ≠ 0 by omega)
  generalize b % (xs.length : Int) = k at k0
  rw [addM_ok, sl_to' xs k0, sl_from' xs (k := k + 1) (by omega), sl_to' xs (k := k + 1) (by omega), sl_from' xs k0, show sliceM (.ok xs) (someM (.ok (1 : Int))) (.ok none) = .ok (xs.drop 1) from sl_from' xs (by decide)]
  rw [eqM_ok, eqM_ok, eqM_ok, eqM_ok, bif_eq, bif_eq, bif_eq, bif_eq]
  split
  · rw [cat_gs (gl.take _) (gl.drop _) (by omega)]
    obtain ⟨t', e, q⟩ := ((gl.take k.toNat).app (gl.drop (k + 1).toNat)).join (s := 10) (.inr rfl) (by omega)
    exact fin_gd e q (by omega) (by omega)
  · split
    · rw [cat_gs (gl.take _) (gl.drop _) (by omega)]
      obtain ⟨t', e, q⟩ := ((gl.take (k + 1).toNat).app (gl.drop k.toNat)).join (s := 10) (.inr rfl) (by omega)
      exact fin_gd e q (by omega) (by omega)
    · split
      · have ge : Gs 1 n [("" : Str)] := by
          rw [emp_is]
          exact Gs.one (L := 0) ⟨Nat.le_refl _, rfl, fun c hc => by cases hc⟩
        rw [show consM (.ok ("" : Str)) (.ok []) = .ok [("" : Str)] from rfl, cat_gs (gl.take _) ge (by omega), cat_gs ((gl.take _).app ge) (gl.drop _) (by omega)]
        obtain ⟨t', e, q⟩ := (((gl.take k.toNat).app ge).app (gl.drop k.toNat)).join (s := 10) (.inr rfl) (by omega)
        exact fin_gd e q (by omega) (by omega)
      · split
        · rw [show (consM (.ok ("7 1 1" : Str)) (consM (.ok ("0 0 1" : Str)) (consM (.ok ("0 7 1" : Str)) (consM (.ok ("0 1 0" : Str)) (consM (.ok ("0 1 33" : Str)) (consM (.ok ("6 1 17" : Str)) (consM (.ok ("0 1 32" : Str)) (consM (.ok ("6 6 16" : Str)) (consM (.ok ("1 1" : Str)) (consM (.ok ("0 1 1 1" : Str)) (consM (.ok ("5 1 32" : Str)) (.ok [])))))))))))) = .ok [("7 1 1" : Str), ("0 0 1" : Str), ("0 7 1" : Str), ("0 1 0" : Str), ("0 1 33" : Str), ("6 1 17" : Str), ("0 1 32" : Str), ("6 6 16" : Str), ("1 1" : Str), ("0 1 1 1" : Str), ("5 1 32" : Str)] from rfl, Res.bind_ok, mod_ok (by decide)]
          obtain ⟨z, hz, ez⟩ := ix_mem (xs := [("7 1 1" : Str), ("0 0 1" : Str), ("0 7 1" : Str), ("0 1 0" : Str), ("0 1 33" : Str), ("6 1 17" : Str), ("0 1 32" : Str), ("6 6 16" : Str), ("1 1" : Str), ("0 1 1 1" : Str), ("5 1 32" : Str)]) (i := c % 11) (Int.emod_nonneg _ (by decide)) (by have := Int.emod_lt_of_pos c (show (0 : Int) < 11 by decide); simp; omega)
          have hz2 := hd_is z hz
          have gz : Gs 41 (n + 40) [z] := by
            have := Gs.one ((short_gd (z := tl z) (by omega) hz2.2).mono (Nat.le_refl _) (show 40 ≤ n + 40 by omega))
            rwa [show S (tl z) = z from mk_tl z] at this
          have gd := (gl.drop 1).mono (Nat.le_refl _) (show n ≤ n + 40 by omega)
          rw [ez, show consM (.ok z) (.ok []) = .ok [z] from rfl, cat_gs gz gd (by omega)]
          obtain ⟨t', e, q⟩ := (gz.app gd).join (s := 10) (.inr rfl) (by omega)
          exact fin_gd e q (by omega) (by omega)
        · rw [lenS_ok (by omega), addM_ok, mod_ok (by omega), sl_to (by omega) (Int.emod_nonneg _ (by omega))]
          exact ⟨_, rfl, (g.take _).mono (by omega) (by omega)⟩
end T96

/-! k96, the plain law: a word changed -/
namespace T96
open PySem Mw SX TL
theorem tot_set : ∀ (xs : List (List Nat)) (i : Nat) (y : List Nat), tot (xs.set i y) ≤ tot xs + y.length
  | [], i, y => by simp [tot]
  | x :: xs, 0, y => by
    show tot (y :: xs) ≤ _
    rw [tot_cons, tot_cons]; omega
  | x :: xs, i + 1, y => by
    show tot (x :: xs.set i y) ≤ _
    rw [tot_cons, tot_cons]
    have := tot_set xs i y
    omega
theorem Gs.sett {T n L m : Nat} {xs : List Str} {z : Str} (g : Gs T n xs) (h : Gd L m (tl z)) (hm : n ≤ m) (i : Nat) : Gs (T + L) m (xs.set i z) := by
  refine ⟨?_, fun x hx => ?_⟩
  · rw [List.map_set]
    have := tot_set (xs.map tl) i (tl z)
    have := g.tt
    have := h.ln
    omega
  · rcases List.mem_or_eq_of_mem_set hx with q | q
    · exact ⟨runs_mono hm (g.mm x q).1, (g.mm x q).2⟩
    · rw [q]; exact ⟨h.rn, h.ch⟩
theorem mul_is : Txt.mul ("1" : Str) 30 = S (List.replicate 30 49) := by decide +kernel
theorem cs_is : ∀ z ∈ [("" : Str), Txt.mul ("1" : Str) 30, ("-0" : Str), ("32" : Str), ("31" : Str), ("64" : Str), ("63" : Str), ("1" : Str), ("6" : Str), ("7" : Str), ("2" : Str), ("33" : Str), ("16" : Str)],
    (tl z).length ≤ 30 ∧ ∀ c ∈ tl z, c < 128 := by decide +kernel
theorem word_ok {a b c d e : Int} {L n : Nat} {t : List Nat} (g : Gd L n t) (hL : L ≤ 120000) : Ends L n (G96.m_law_word_changed (S t) [a, b, c, d, e]) := by
  unfold G96.m_law_word_changed
  have hl := g.ln
  rw [show idxM (.ok [a, b, c, d, e]) (.ok (3 : Int)) = .ok d from rfl, show idxM (.ok [a, b, c, d, e]) (.ok (1 : Int)) = .ok b from rfl, show idxM (.ok [a, b, c, d, e]) (.ok (2 : Int)) = .ok c from rfl]
  rw [nl_is, sp_is, splM_ok (by decide) (by omega), Res.bind_ok, Res.bind_ok, Res.bind_ok, Res.bind_ok, len_ok]
  have gl := g.cuts (c := 10) (.inr rfl)
  have hn := gl.len
  have hne : 1 ≤ ((cut 10 t).map S).length := by
    rw [List.length_map]
    cases hc : cut 10 t with
    | nil => exact absurd hc (cut_ne 10 t)
    | cons x xs => simp
  have hpart : ∀ z ∈ (cut 10 t).map S, ∃ l, z = S l ∧ Gd L n l := fun z hz => by
    obtain ⟨l, hl, rfl⟩ := List.mem_map.mp hz
    exact ⟨l, rfl, g.part (.inr rfl) hl⟩
  generalize (cut 10 t).map S = xs at gl hn hne hpart
  rw [mod_ok (by omega), Res.bind_ok]
  have k0 := Int.emod_nonneg b (show (xs.length : Int) ≠ 0 by omega)
  have k1 := Int.emod_lt_of_pos b (show (0 : Int) < (xs.length : Int) by omega)
  generalize b % (xs.length : Int) = k at k0 k1
  obtain ⟨z, hz, ez⟩ := ix_mem k0 k1
  obtain ⟨l, rfl, gline⟩ := hpart z hz
  have hl2 := gline.ln
  rw [ez, splM_ok (by decide) (by omega), Res.bind_ok, len_ok]
  have gw := gline.cuts (c := 32) (.inl rfl)
  have hw := gw.len
  have hwne : 1 ≤ ((cut 32 l).map S).length := by
    rw [List.length_map]
    cases hc : cut 32 l with
    | nil => exact absurd hc (cut_ne 32 l)
    | cons x xs => simp
  have hwp : ∀ z ∈ (cut 32 l).map S, ∃ w, z = S w ∧ Gd L n w := fun z hz => by
    obtain ⟨w, hw, rfl⟩ := List.mem_map.mp hz
    exact ⟨w, rfl, gline.part (.inl rfl) hw⟩
  generalize (cut 32 l).map S = ws at gw hw hwne hwp
  rw [mod_ok (by omega), Res.bind_ok]
  have p0 := Int.emod_nonneg c (show (ws.length : Int) ≠ 0 by omega)
  have p1 := Int.emod_lt_of_pos c (show (0 : Int) < (ws.length : Int) by omega)
  generalize c % (ws.length : Int) = p at p0 p1
  obtain ⟨y, hy, ey⟩ := ix_mem p0 p1
  obtain ⟨w, rfl, gwd⟩ := hwp y hy
  have hwl := gwd.ln
  have c0 := Int.emod_nonneg c (show (70 : Int) ≠ 0 by decide)
  have c1 := Int.emod_lt_of_pos c (show (0 : Int) < 70 by decide)
  rw [ey, zero_is, addT (a := [48]) rfl rfl (by simp; omega), addT rfl rfl (by simp; omega), mod_ok (by decide), str_ok c0 (by omega)]
  have em : mulSM (.ok ("1" : Str)) (.ok (30 : Int)) = .ok (Txt.mul ("1" : Str) 30) := by
    show (if ("1" : Str).length ≤ 16 ∧ -(2 ^ 63 : Int) ≤ 30 ∧ (30 : Int) ≤ ((1048576 : Nat) : Int) then Res.ok (Txt.mul ("1" : Str) 30) else .stuck) = _
    rw [if_pos ⟨by decide +kernel, by decide, by decide⟩]
  rw [em]
  rw [show (consM (.ok ("" : Str)) (consM (.ok (S ([48] ++ w))) (consM (.ok (S (w ++ [32]))) (consM (.ok (Txt.mul ("1" : Str) 30)) (consM (.ok (S (nt (c % 70)))) (consM (.ok ("-0" : Str)) (consM (.ok ("32" : Str)) (consM (.ok ("31" : Str)) (consM (.ok ("64" : Str)) (consM (.ok ("63" : Str)) (.ok []))))))))))) = .ok [("" : Str), S ([48] ++ w), S (w ++ [32]), Txt.mul ("1" : Str) 30, S (nt (c % 70)), ("-0" : Str), ("32" : Str), ("31" : Str), ("64" : Str), ("63" : Str)] from rfl, Res.bind_ok]
  rw [show (consM (.ok ("1" : Str)) (consM (.ok ("6" : Str)) (consM (.ok ("7" : Str)) (consM (.ok ("2" : Str)) (consM (.ok ("33" : Str)) (consM (.ok ("16" : Str)) (.ok []))))))) = .ok [("1" : Str), ("6" : Str), ("7" : Str), ("2" : Str), ("33" : Str), ("16" : Str)] from rfl, cat_ok' (by simp), mod_ok (by decide)]
  have d0 := Int.emod_nonneg d (show (16 : Int) ≠ 0 by decide)
  have d1 := Int.emod_lt_of_pos d (show (0 : Int) < 16 by decide)
  obtain ⟨v, hv, ev⟩ := ix_mem (xs := [("" : Str), S ([48] ++ w), S (w ++ [32]), Txt.mul ("1" : Str) 30, S (nt (c % 70)), ("-0" : Str), ("32" : Str), ("31" : Str), ("64" : Str), ("63" : Str)] ++ [("1" : Str), ("6" : Str), ("7" : Str), ("2" : Str), ("33" : Str), ("16" : Str)]) d0 (by simp; omega)
  have gv : Gd (L + 30) (n + 40) (tl v) := by
    have cs : v ∈ [("" : Str), Txt.mul ("1" : Str) 30, ("-0" : Str), ("32" : Str), ("31" : Str), ("64" : Str), ("63" : Str), ("1" : Str), ("6" : Str), ("7" : Str), ("2" : Str), ("33" : Str), ("16" : Str)] ∨ v = S ([48] ++ w) ∨ v = S (w ++ [32]) ∨ v = S (nt (c % 70)) := by
      simp only [List.cons_append, List.nil_append, List.mem_cons, List.not_mem_nil, or_false] at hv ⊢
      rcases hv with h | h | h | h | h | h | h | h | h | h | h | h | h | h | h | h <;> simp [h]
    rcases cs with h | h | h | h
    · have := cs_is v h
      exact (show Gd 30 30 (tl v) from ⟨this.1, runs_short (by omega), this.2⟩).mono (by omega) (by omega)
    · rw [h]
      exact ((one_gd (c := 48) (by decide)).app gwd).mono (by omega) (by omega)
    · rw [h]
      exact (gwd.app (one_gd (c := 32) (by decide))).mono (by omega) (by omega)
    · rw [h]
      exact (nt_gd c0 (by omega)).mono (by omega) (by omega)
  rw [ev, setM_ok p0 p1]
  have gs := gw.sett gv (by omega) p.toNat
  obtain ⟨j, ej, gj⟩ := gs.join (s := 32) (.inl rfl) (by omega)
  have g1 := Gs.one gj
  have ga := (gl.take k.toNat).mono (Nat.le_refl _) (show n ≤ n + 40 by omega)
  have gb := (gl.drop (k + 1).toNat).mono (Nat.le_refl _) (show n ≤ n + 40 by omega)
  have htt : tot ((xs.take k.toNat).map tl) + tot ((xs.drop (k + 1).toNat).map tl) ≤ L + 1 := by
    have := gl.tt
    rw [← List.take_append_drop k.toNat xs, List.map_append, tot_app] at this
    have e : xs.drop (k + 1).toNat = (xs.drop k.toNat).drop 1 := by
      rw [List.drop_drop]
      congr 1
      omega
    have := ((⟨Nat.le_refl _, fun x hx => gl.mm x (List.mem_of_mem_drop hx)⟩ : Gs (tot ((xs.drop k.toNat).map tl)) n (xs.drop k.toNat)).drop 1).tt
    rw [e]
    omega
  rw [ej, addM_ok, sl_to' xs k0, sl_from' xs (k := k + 1) (by omega), show consM (.ok (S j)) (.ok []) = .ok [S j] from rfl, cat_gs ga g1 (by omega), cat_gs (ga.app g1) gb (by omega)]
  have gt : Gs (3 * L + 60) (n + 40) (xs.take k.toNat ++ [S j] ++ xs.drop (k + 1).toNat) := by
    refine ⟨?_, ((ga.app g1).app gb).mm⟩
    have := g1.tt
    rw [List.map_append, List.map_append, tot_app, tot_app]
    omega
  obtain ⟨t', e, q⟩ := gt.join (s := 10) (.inr rfl) (by omega)
  exact ⟨t', e, q.mono (Nat.le_refl _) (by omega)⟩
end T96

/-! k96, the plain law: up to three changes -/
namespace T96
open PySem Mw SX TL
theorem b9c {p0 p1 p2 p3 p4 p5 p6 p7 p8 p9 p10 p11 p12 p13 p14 p15 : Int} {k : Nat} (hk : k < 3) {L n : Nat} {t : List Nat} (g : Gd L n t) (hL : L ≤ 120000) :
    Ends L n (G96.m_law_changed_b9 [p0, p1, p2, p3, p4, p5, p6, p7, p8, p9, p10, p11, p12, p13, p14, p15] (k : Int) (S t)) := by
  have hd : ∃ a b c d e : Int, sliceM (.ok [p0, p1, p2, p3, p4, p5, p6, p7, p8, p9, p10, p11, p12, p13, p14, p15]) (someM (addM (.ok (1 : Int)) (mulM (.ok (5 : Int)) (.ok (k : Int))))) (someM (addM (.ok (6 : Int)) (mulM (.ok (5 : Int)) (.ok (k : Int))))) = .ok [a, b, c, d, e] := by
    rw [mul_ok (.inl (by decide)), addM_ok, addM_ok]
    match k, hk with
    | 0, _ => exact ⟨p1, p2, p3, p4, p5, rfl⟩
    | 1, _ => exact ⟨p6, p7, p8, p9, p10, rfl⟩
    | 2, _ => exact ⟨p11, p12, p13, p14, p15, rfl⟩
  obtain ⟨a, b, c, d, e, hd⟩ := hd
  unfold G96.m_law_changed_b9
  rw [hd, Res.bind_ok, show idxM (.ok [a, b, c, d, e]) (.ok (4 : Int)) = .ok e from rfl, lt_ok, lt_ok, bif_eq, bif_eq, pairM_ok, Res.bind_ok, Res.bind_ok, Res.bind_ok]
  dsimp only
  obtain ⟨t1, e1, g1⟩ := sign_ok (a := a) (b := b) (c := c) (d := d) (e := e) g hL
  obtain ⟨t2, e2, g2⟩ := word_ok (a := a) (b := b) (c := c) (d := d) (e := e) g hL
  obtain ⟨t3, e3, g3⟩ := line_ok (a := a) (b := b) (c := c) (d := d) (e := e) g hL
  rw [e1, e2, e3, Res.bind_ok, Res.bind_ok, Res.bind_ok]
  split
  · exact ⟨t1, rfl, g1⟩
  · split
    · exact ⟨t2, rfl, g2⟩
    · exact ⟨t3, rfl, g3⟩
def LL : Nat → Nat
  | 0 => 12400
  | k + 1 => 3 * LL k + 60
def NN : Nat → Nat
  | 0 => 2
  | k + 1 => 2 * NN k + 40
theorem LL_le : ∀ k, k < 3 → LL k ≤ 120000 := by decide
theorem len16 {xs : List Int} (h : xs.length = 16) : ∃ p0 p1 p2 p3 p4 p5 p6 p7 p8 p9 p10 p11 p12 p13 p14 p15, xs = [p0, p1, p2, p3, p4, p5, p6, p7, p8, p9, p10, p11, p12, p13, p14, p15] := by
  match xs, h with
  | [p0, p1, p2, p3, p4, p5, p6, p7, p8, p9, p10, p11, p12, p13, p14, p15], _ => exact ⟨p0, p1, p2, p3, p4, p5, p6, p7, p8, p9, p10, p11, p12, p13, p14, p15, rfl⟩
theorem changed_ok {t : List Nat} (g : Gd 12400 2 t) (cell : Int) : ∃ t', G96.m_law_changed (S t) cell = .ok (S t') ∧ Gd 335580 296 t' := by
  unfold G96.m_law_changed
  have er : repM (consM (.ok (5 : Int)) (consM (.ok (40 : Int)) (consM (.ok (10000 : Int)) (consM (.ok (48 : Int)) (consM (.ok (9 : Int)) (.ok [])))))) (.ok (3 : Int)) = .ok [5, 40, 10000, 48, 9, 5, 40, 10000, 48, 9, 5, 40, 10000, 48, 9] :=
    repC_ok [5, 40, 10000, 48, 9] (n := 3) (by decide) (by decide)
  rw [er, show consM (.ok (3 : Int)) (.ok []) = .ok [3] from rfl, Mw.catM_ok _ _ (by decide), pairM_ok, Res.bind_ok]
  dsimp only
  obtain ⟨ps, e, hl, hp⟩ := parts cell (sizes := [3] ++ [5, 40, 10000, 48, 9, 5, 40, 10000, 48, 9, 5, 40, 10000, 48, 9]) (by decide) (by decide)
  have h0 := hp 0 ⟨by decide, by decide⟩
  obtain ⟨p0, p1, p2, p3, p4, p5, p6, p7, p8, p9, p10, p11, p12, p13, p14, p15, rfl⟩ := len16 (xs := ps) (by rw [hl]; rfl)
  have h1 : 0 ≤ p0 := h0.1
  have h2 : p0 < 3 := h0.2
  rw [e, Res.bind_ok, show idxM (.ok [p0, p1, p2, p3, p4, p5, p6, p7, p8, p9, p10, p11, p12, p13, p14, p15]) (.ok (0 : Int)) = .ok p0 from rfl, addM_ok]
  have e1 : (1 + p0) = (((1 + p0).toNat : Nat) : Int) := by omega
  have e2 : (1 + p0).toNat ≤ 3 := by omega
  rw [e1]
  generalize (1 + p0).toNat = m at e2
  rw [rng1_ok (by omega), Res.bind_ok]
  obtain ⟨s', es, t', hs, gt⟩ := forM_rng (f := G96.m_law_changed_b9 [p0, p1, p2, p3, p4, p5, p6, p7, p8, p9, p10, p11, p12, p13, p14, p15]) (fun k s => ∃ t, s = S t ∧ Gd (LL k) (NN k) t) (n := m) (s := S t) ⟨t, rfl, g⟩ 0 (fun k s hk ⟨t, hs, gt⟩ => by
    subst hs
    obtain ⟨t2, e2, g2⟩ := b9c (p0 := p0) (p1 := p1) (p2 := p2) (p3 := p3) (p4 := p4) (p5 := p5) (p6 := p6) (p7 := p7) (p8 := p8) (p9 := p9) (p10 := p10) (p11 := p11) (p12 := p12) (p13 := p13) (p14 := p14) (p15 := p15) (k := k) (by omega) gt (LL_le k (by omega))
    rw [Int.zero_add]
    exact ⟨_, e2, t2, rfl, g2⟩)
  subst hs
  rw [es, Res.bind_ok]
  refine ⟨t', rfl, ?_⟩
  have hLL : ∀ m, m ≤ 3 → LL m ≤ 335580 ∧ NN m ≤ 296 := by decide
  exact gt.mono (hLL m e2).1 (hLL m e2).2
end T96

/-! k96, the plain law: the drawn tables -/
namespace T96
open PySem Mw SX TL
structure OkR (r : Row) : Prop where
  ln : r.length ≤ 64
  pr : ∀ p ∈ r, 0 ≤ p.1 ∧ p.1 < 100 ∧ 0 ≤ p.2 ∧ p.2 < 100
structure OkRs (k : Nat) (rs : List Row) : Prop where
  ln : rs.length = k
  rs : ∀ r ∈ rs, OkR r
theorem OkRs.snoc {k : Nat} {rs : List Row} {r : Row} (h : OkRs k rs) (g : OkR r) : OkRs (k + 1) (rs ++ [r]) :=
  ⟨by rw [List.length_append, h.ln]; rfl, fun x hx => (List.mem_append.mp hx).elim (h.rs x) fun z => by rw [List.mem_singleton.mp z]; exact g⟩
theorem OkRs.tbl {k : Nat} {rs : List Row} (h : OkRs k rs) (hk : k ≤ 32) {i o : Int} (h1 : 0 ≤ i) (h2 : i < 100) (h3 : 0 ≤ o) (h4 : o < 100) : OkT (i, o, rs) :=
  ⟨h1, h2, h3, h4, by show rs.length ≤ 32; rw [h.ln]; exact hk, fun r hr => (h.rs r hr).ln, fun r hr => (h.rs r hr).pr⟩
theorem b11_ok {script : List Int} (hl : script.length ≤ 63) {h0 h1 h2 h3 an : Int} (a0 : 0 ≤ h0) (a1 : h0 < 3) (b0 : 0 ≤ h2) (b1 : h2 < 6) (c0 : 0 < an) (c1 : an ≤ 64) {k : Nat} (hk : k < 100) {rows : List Row} (h : OkRs k rows) :
    ∃ r, OkR r ∧ G96.m_law_table_b11 script 0 [h0, h1, h2, h3] an (k : Int) rows = .ok (rows ++ [r]) := by
  unfold G96.m_law_table_b11
  have hlim := lim_big
  rw [addM_ok, addM_ok, pairM_ok, Res.bind_ok]
  dsimp only
  obtain ⟨x, ex⟩ := far script (by omega) (k := 0 + 1 + (k : Int)) ⟨by omega, by omega⟩
  have hq : ∃ q : Nat, q ≤ 4 ∧ 1 ≤ q ∧ idxM (consM (.ok (1 : Int)) (consM (.ok (2 : Int)) (consM (.ok (4 : Int)) (.ok [])))) (idxM (.ok [h0, h1, h2, h3]) (.ok (0 : Int))) = .ok (q : Int) := by
    have : h0 = 0 ∨ h0 = 1 ∨ h0 = 2 := by omega
    rcases this with rfl | rfl | rfl
    · exact ⟨1, by decide, by decide, rfl⟩
    · exact ⟨2, by decide, by decide, rfl⟩
    · exact ⟨4, by decide, by decide, rfl⟩
  obtain ⟨q, q4, q1, eq⟩ := hq
  have es : (List.replicate q [(32 : Int), 64]).flatten.length = 2 * q := by
    simp [List.length_flatten]
    omega
  rw [ex, eq, show consM (.ok (32 : Int)) (consM (.ok (64 : Int)) (.ok [])) = .ok [32, 64] from rfl, repC_ok [32, 64] (n := q) (by omega) (by simp; omega), pairM_ok, Res.bind_ok]
  dsimp only
  obtain ⟨ps, ep, hpl, hp⟩ := parts x (sizes := (List.replicate q [(32 : Int), 64]).flatten) (by rw [es]; omega) (fun z hz => by
    obtain ⟨l, hl, hz⟩ := List.mem_flatten.mp hz
    rw [(List.mem_replicate.mp hl).2] at hz
    simp at hz
    omega)
  rw [es] at hpl
  rw [ep, Res.bind_ok, len_ok, hpl, fdiv_ok (by decide) (by decide), show ((2 * q : Nat) : Int) / 2 = ((q : Nat) : Int) by omega, rng1_ok (by omega), show idxM (.ok [h0, h1, h2, h3]) (.ok (2 : Int)) = .ok h2 from rfl, addM_ok]
  rw [lcB_map (fun z => (gx ps (2 * z) % (1 + h2), gx ps (2 * z + 1) % an)) (by rw [rgL_length]; omega) (fun z hz => by
    have := mem_rgL.mp hz
    rw [mul_ok (.inl (by decide)), addM_ok, idxM_gx (by omega) (by omega), idxM_gx (by omega) (by omega), Res.bind_ok, Res.bind_ok, mod_ok (by omega), mod_ok c0, pairM_ok])]
  rw [Res.bind_ok, appM_ok _ _ _ (by rw [h.ln]; omega)]
  refine ⟨_, ⟨?_, fun p hp => ?_⟩, rfl⟩
  · rw [List.length_map, rgL_length]; omega
  · obtain ⟨z, hz, rfl⟩ := List.mem_map.mp hp
    dsimp only
    have u1 := Int.emod_nonneg (gx ps (2 * z)) (show 1 + h2 ≠ 0 by omega)
    have u2 := Int.emod_lt_of_pos (gx ps (2 * z)) (show 0 < 1 + h2 by omega)
    have v1 := Int.emod_nonneg (gx ps (2 * z + 1)) (show an ≠ 0 by omega)
    have v2 := Int.emod_lt_of_pos (gx ps (2 * z + 1)) c0
    exact ⟨u1, by omega, v1, by omega⟩
theorem j4_ok {script : List Int} (hl : script.length ≤ 63) {h0 h1 h2 h3 an : Int} (a0 : 0 ≤ h0) (a1 : h0 < 3) (d0 : 0 ≤ h1) (d1 : h1 < 6) (b0 : 0 ≤ h2) (b1 : h2 < 6) (c0 : 0 < an) (c1 : an ≤ 64) :
    ∃ t, OkT t ∧ G96.m_law_table_j4 script 0 [h0, h1, h2, h3] an = .ok t := by
  unfold G96.m_law_table_j4
  dsimp only
  rw [Res.bind_ok, show idxM (.ok [h0, h1, h2, h3]) (.ok (2 : Int)) = .ok h2 from rfl, show idxM (.ok [h0, h1, h2, h3]) (.ok (0 : Int)) = .ok h0 from rfl, show idxM (.ok [h0, h1, h2, h3]) (.ok (1 : Int)) = .ok h1 from rfl, addM_ok, addM_ok]
  have e1 : (1 + h2) = (((1 + h2).toNat : Nat) : Int) := by omega
  have e2 : (1 + h2).toNat ≤ 6 := by omega
  rw [e1]
  generalize (1 + h2).toNat = m at e2
  rw [rng1_ok (by omega), Res.bind_ok]
  obtain ⟨s', es, hs⟩ := forM_rng (f := G96.m_law_table_b11 script 0 [h0, h1, h2, h3] an) (fun k s => OkRs k s) (n := m) (s := []) ⟨rfl, fun r hr => by cases hr⟩ 0 (fun k s hk hs => by
    obtain ⟨r, gr, er⟩ := b11_ok (h1 := h1) (h3 := h3) hl a0 a1 b0 b1 c0 c1 (show k < 100 by omega) hs
    rw [Int.zero_add]
    exact ⟨_, er, hs.snoc gr⟩)
  rw [es, Res.bind_ok, Res.bind_ok, pairM_ok, pairM_ok]
  exact ⟨_, hs.tbl (by omega) a0 (by omega) (by omega) (by omega), rfl⟩
theorem table_ok {script : List Int} (hl : script.length ≤ 63) : ∃ t, OkT t ∧ G96.m_law_table script 0 6 = .ok t := by
  unfold G96.m_law_table
  obtain ⟨x, ex⟩ := far script (by omega) (k := 0) ⟨by omega, by omega⟩
  rw [pairM_ok, Res.bind_ok]
  dsimp only
  rw [ex, show (consM (.ok (3 : Int)) (consM (.ok (6 : Int)) (consM (.ok (6 : Int)) (consM (.ok (4 : Int)) (.ok []))))) = .ok [3, 6, 6, 4] from rfl, pairM_ok, Res.bind_ok]
  dsimp only
  obtain ⟨ps, ep, hpl, hp⟩ := parts x (sizes := [3, 6, 6, 4]) (by decide) (by decide)
  have q0 := hp 0 ⟨by decide, by decide⟩
  have q1 := hp 1 ⟨by decide, by decide⟩
  have q2 := hp 2 ⟨by decide, by decide⟩
  match ps, hpl with
  | [h0, h1, h2, h3], _ =>
    have a0 : 0 ≤ h0 := q0.1
    have a1 : h0 < 3 := q0.2
    have d0 : 0 ≤ h1 := q1.1
    have d1 : h1 < 6 := q1.2
    have b0 : 0 ≤ h2 := q2.1
    have b1 : h2 < 6 := q2.2
    rw [ep, Res.bind_ok, Res.bind_ok, show idxM (.ok [h0, h1, h2, h3]) (.ok (3 : Int)) = .ok h3 from rfl, show idxM (.ok [h0, h1, h2, h3]) (.ok (1 : Int)) = .ok h1 from rfl, eqM_ok, bif_eq]
    have han : ∃ an : Int, 0 < an ∧ an ≤ 64 ∧ idxM (consM (.ok (2 : Int)) (consM (.ok (4 : Int)) (consM (.ok (8 : Int)) (consM (.ok (16 : Int)) (consM (.ok (32 : Int)) (consM (.ok (64 : Int)) (.ok []))))))) (.ok h1) = .ok an := by
      have : h1 = 0 ∨ h1 = 1 ∨ h1 = 2 ∨ h1 = 3 ∨ h1 = 4 ∨ h1 = 5 := by omega
      rcases this with rfl | rfl | rfl | rfl | rfl | rfl
      · exact ⟨2, by decide, by decide, rfl⟩
      · exact ⟨4, by decide, by decide, rfl⟩
      · exact ⟨8, by decide, by decide, rfl⟩
      · exact ⟨16, by decide, by decide, rfl⟩
      · exact ⟨32, by decide, by decide, rfl⟩
      · exact ⟨64, by decide, by decide, rfl⟩
    obtain ⟨an, c0, c1, ea⟩ := han
    split
    · rw [ea, Res.bind_ok]
      exact j4_ok hl a0 a1 d0 d1 b0 b1 c0 c1
    · exact j4_ok hl a0 a1 d0 d1 b0 b1 (by decide) (by decide)
end T96

/-! k96, the plain law: the large table and the law -/
namespace T96
open PySem Mw SX TL
theorem lb11_ok {p0 p1 p2 p3 p4 st : Int} (s0 : 0 < st) (s1 : st ≤ 32) (h3 : 0 ≤ p3 ∧ p3 < 1000) (h4 : 0 ≤ p4 ∧ p4 < 1000) {j k : Nat} (hj : j < 100) (hk : k < 100) {row : Row} (hl : row.length < 1000) :
    ∃ p : Int × Int, (0 ≤ p.1 ∧ p.1 < 100 ∧ 0 ≤ p.2 ∧ p.2 < 100) ∧ G96.m_law_large_b11 [p0, p1, p2, p3, p4] st (j : Int) (k : Int) row = .ok (row ++ [p]) := by
  unfold G96.m_law_large_b11
  have hlim := lim_big
  rw [show idxM (.ok [p0, p1, p2, p3, p4]) (.ok (2 : Int)) = .ok p2 from rfl, show idxM (.ok [p0, p1, p2, p3, p4]) (.ok (3 : Int)) = .ok p3 from rfl, show idxM (.ok [p0, p1, p2, p3, p4]) (.ok (4 : Int)) = .ok p4 from rfl,
    mul_ok (.inl (by omega)), mul_ok (.inl (by omega)), addM_ok, addM_ok, Res.bind_ok, Res.bind_ok, mod_ok s0, fdiv_ok (by decide) (by decide), Res.bind_ok, mod_ok (by decide), pairM_ok, appM_ok _ _ _ (by omega)]
  generalize p2 + (j : Int) * p3 + (k : Int) * p4 = z
  have u1 := Int.emod_nonneg z (show st ≠ 0 by omega)
  have u2 := Int.emod_lt_of_pos z s0
  have v1 := Int.emod_nonneg (z / 3) (show (64 : Int) ≠ 0 by decide)
  have v2 := Int.emod_lt_of_pos (z / 3) (show (0 : Int) < 64 by decide)
  exact ⟨(z % st, z / 3 % 64), ⟨u1, by show z % st < 100; omega, v1, by show z / 3 % 64 < 100; omega⟩, rfl⟩
theorem lb13_ok {p0 p1 p2 p3 p4 st : Int} (s0 : 0 < st) (s1 : st ≤ 32) (h3 : 0 ≤ p3 ∧ p3 < 1000) (h4 : 0 ≤ p4 ∧ p4 < 1000) {i : Int} (i0 : 0 ≤ i) (i6 : i ≤ 6) {j : Nat} (hj : j < 100) {rows : List Row} (h : OkRs j rows) :
    ∃ r, OkR r ∧ G96.m_law_large_b13 [p0, p1, p2, p3, p4] i st (j : Int) rows = .ok (rows ++ [r]) := by
  unfold G96.m_law_large_b13
  have hlim := lim_big
  have hp := p2_le (d := i.toNat) (by omega)
  rw [Res.bind_ok, shlN i0 (by omega) (by decide), Int.one_mul, rng1_ok (by omega), Res.bind_ok]
  obtain ⟨s', es, hs⟩ := forM_rng (f := G96.m_law_large_b11 [p0, p1, p2, p3, p4] st (j : Int)) (fun k (s : Row) => s.length = k ∧ ∀ p ∈ s, 0 ≤ p.1 ∧ p.1 < 100 ∧ 0 ≤ p.2 ∧ p.2 < 100) (n := 2 ^ i.toNat) (s := []) ⟨rfl, fun r hr => by cases hr⟩ 0 (fun k s hk hs => by
    obtain ⟨p, gp, ep⟩ := lb11_ok (p0 := p0) (p1 := p1) (p2 := p2) s0 s1 h3 h4 hj (show k < 100 by omega) (row := s) (by rw [hs.1]; omega)
    rw [Int.zero_add]
    exact ⟨_, ep, by rw [List.length_append, hs.1]; rfl, fun x hx => (List.mem_append.mp hx).elim (hs.2 x) fun z => by rw [List.mem_singleton.mp z]; exact gp⟩)
  rw [es, Res.bind_ok, Res.bind_ok, appM_ok _ _ _ (by rw [h.ln]; omega)]
  exact ⟨s', ⟨by rw [hs.1]; omega, hs.2⟩, rfl⟩
theorem large_ok {p0 p1 p2 p3 p4 : Int} (h1 : 0 ≤ p1 ∧ p1 < 3) (h3 : 0 ≤ p3 ∧ p3 < 1000) (h4 : 0 ≤ p4 ∧ p4 < 1000) : ∃ t, OkT t ∧ G96.m_law_large [p0, p1, p2, p3, p4] = .ok t := by
  have hi : ∃ (i : Int) (n : Nat), 0 ≤ i ∧ i ≤ 6 ∧ 1 ≤ n ∧ n ≤ 32 ∧ idxM (consM (.ok (0 : Int)) (consM (.ok (5 : Int)) (consM (.ok (6 : Int)) (.ok [])))) (.ok p1) = .ok i ∧ idxM (consM (.ok (32 : Int)) (consM (.ok (32 : Int)) (consM (.ok (16 : Int)) (.ok [])))) (.ok p1) = .ok (n : Int) := by
    have : p1 = 0 ∨ p1 = 1 ∨ p1 = 2 := by omega
    rcases this with rfl | rfl | rfl
    · exact ⟨0, 32, by decide, by decide, by decide, by decide, rfl, rfl⟩
    · exact ⟨5, 32, by decide, by decide, by decide, by decide, rfl, rfl⟩
    · exact ⟨6, 16, by decide, by decide, by decide, by decide, rfl, rfl⟩
  obtain ⟨i, n, i0, i6, n1, n32, ei, en⟩ := hi
  unfold G96.m_law_large
  rw [show idxM (.ok [p0, p1, p2, p3, p4]) (.ok (1 : Int)) = .ok p1 from rfl, ei, en, Res.bind_ok, Res.bind_ok, Res.bind_ok, rng1_ok (by omega), Res.bind_ok]
  obtain ⟨s', es, hs⟩ := forM_rng (f := G96.m_law_large_b13 [p0, p1, p2, p3, p4] i (n : Int)) (fun k s => OkRs k s) (n := n) (s := []) ⟨rfl, fun r hr => by cases hr⟩ 0 (fun k s hk hs => by
    obtain ⟨r, gr, er⟩ := lb13_ok (p0 := p0) (p1 := p1) (p2 := p2) (p3 := p3) (p4 := p4) (st := (n : Int)) (by omega) (by omega) h3 h4 i0 i6 (show k < 100 by omega) hs
    rw [Int.zero_add]
    exact ⟨_, er, hs.snoc gr⟩)
  rw [es, Res.bind_ok, Res.bind_ok, pairM_ok, pairM_ok]
  exact ⟨_, hs.tbl n32 i0 (by omega) (by decide) (by decide), rfl⟩
theorem empty_tx : Tx [] := Gd.tx (L := 0) (n := 2) nil_gd (by decide) (by decide)
theorem mb9_ok {script : List Int} (hl : script.length ≤ 63) {t : List Nat} (g : Gd 12400 2 t) (k : Nat) (hk : k < 5) : G96.m_law_b9 script (S t) (k : Int) () = .ok (.nx ()) := by
  unfold G96.m_law_b9
  obtain ⟨x, ex⟩ := far script (by omega) (k := 8 + (k : Int)) ⟨by omega, by omega⟩
  obtain ⟨t', et, gt⟩ := changed_ok g x
  rw [addM_ok, pairM_ok, Res.bind_ok]
  dsimp only
  rw [ex, pairM_ok, Res.bind_ok]
  dsimp only
  rw [et, Res.bind_ok, right_ok (gt.tx (by decide) (by decide))]
  rfl
theorem j3_ok {script : List Int} (hl : script.length ≤ 63) {t : Tbl} (h : OkT t) : G96.m_law_j3 script t = .ok true := by
  unfold G96.m_law_j3
  dsimp only
  have g := txt_gd h
  rw [Res.bind_ok, law_text_ok h, Res.bind_ok, Res.bind_ok, write_ok h, Res.bind_ok, Res.bind_ok, Res.bind_ok, Res.bind_ok, right_ok (g.tx (by decide) (by decide)), emp_is, right_ok empty_tx, not_ok, ne_ok, decide_eq_true rfl, or_ok, or_ok, or_ok, bif_eq, if_neg (by decide), show (5 : Int) = ((5 : Nat) : Int) from rfl, rng1_ok (by decide), Res.bind_ok]
  have e : forB (G96.m_law_b9 script (S (txt t))) (rgL 0 5) () = .ok (.nx ()) := forB_un fun z hz => by
    have := mem_rgL.mp hz
    have e : z = ((z.toNat : Nat) : Int) := by omega
    rw [e]
    exact mb9_ok hl g z.toNat (by omega)
  rw [e, Res.bind_ok, Lp.el]
theorem law_true (script : List Int) (hl : script.length ≤ 63) : G96.m_law script = .ok true := by
  unfold G96.m_law
  obtain ⟨x, ex⟩ := far script (by omega) (k := 19) ⟨by omega, by omega⟩
  rw [pairM_ok, Res.bind_ok]
  dsimp only
  rw [ex, show (consM (.ok (20 : Int)) (consM (.ok (3 : Int)) (consM (.ok (10000 : Int)) (consM (.ok (997 : Int)) (consM (.ok (991 : Int)) (.ok [])))))) = .ok [20, 3, 10000, 997, 991] from rfl, pairM_ok, Res.bind_ok]
  dsimp only
  obtain ⟨ps, ep, hpl, hp⟩ := parts x (sizes := [20, 3, 10000, 997, 991]) (by decide) (by decide)
  have q1 := hp 1 ⟨by decide, by decide⟩
  have q3 := hp 3 ⟨by decide, by decide⟩
  have q4 := hp 4 ⟨by decide, by decide⟩
  match ps, hpl with
  | [p0, p1, p2, p3, p4], _ =>
    have a1 : 0 ≤ p1 ∧ p1 < 3 := q1
    have a3 : 0 ≤ p3 ∧ p3 < 997 := q3
    have a4 : 0 ≤ p4 ∧ p4 < 991 := q4
    obtain ⟨t, gt, et⟩ := large_ok (p0 := p0) (p2 := p2) a1 ⟨a3.1, by omega⟩ ⟨a4.1, by omega⟩
    obtain ⟨u, gu, eu⟩ := table_ok hl
    rw [ep, Res.bind_ok, show idxM (.ok [p0, p1, p2, p3, p4]) (.ok (0 : Int)) = .ok p0 from rfl, eqM_ok, bif_eq, Res.bind_ok, et, Res.bind_ok, pairM_ok, pairM_ok, Res.bind_ok]
    dsimp only
    rw [eu, Res.bind_ok, j3_ok hl gt, j3_ok hl gu]
    split <;> rfl
end T96
namespace G96
theorem law_true (script : List Int) (hl : script.length ≤ 63) : m_law script = .ok true := T96.law_true script hl
end G96


namespace G96
open PySem PySem.Spec PyProof.Rows L2 Mw
def spLaw (K : PySem.W.Frag) : Sp := fun vs H Q _ => ∃ (a : Addr) (ns : List Int), vs = [.ref a] ∧ SqL K H a (ns.map V.int) ∧ ns.length ≤ 63 ∧ ∀ H', Q (.bl true) H'
theorem paired_ints : ∀ {K : PySem.W.Frag} {G : Hp} (ns : List Int), RLs zI K G (ns.map V.int) ns
  | _, _, [] => .nil
  | _, _, _ :: ns => .cons rfl (paired_ints ns)
theorem spLaw_imp {K : PySem.W.Frag} {cl : Nat → Addr} (vs : List V) (H : Hp) (Q : VK) (E : XK) (h : spLaw K vs H Q E) : spP K cl (rs1 (rL zI)) rB (fun a => m_law a) vs H Q E := by
  obtain ⟨a, ns, rfl, hS, hl, k⟩ := h
  refine ⟨H, ns, Same.refl _, ⟨_, rfl, a, _, rfl, hS, paired_ints ns⟩, .mk ?_⟩
  show (m_law ns).wp _ _
  rw [law_true ns hl]
  exact fun v G' H' st r => by cases (show v = V.bl true from r); exact k H'
theorem all_mk {P : Program} {w : World} {K : PySem.W.Frag} {h : Heap} {mg : Str → Option Value} {fa : Addr} (X : K.In h) (G : h.Ns mainGlobals mg) (hfa : mg "law" = some (.ref fa))
    {f_state_count f_is_row f_write_table f_is_number f_read_numbers f_is_head f_row_of f_read_table f_law_far f_law_parts f_law_is_integer f_law_table f_law_same_table f_law_text f_law_numbers f_law_is_head f_law_row f_law_reading f_law_sign_changed f_law_word_changed f_law_line_changed f_law_changed f_law_right_text f_law_large f_law : Addr}
    {od_state_count an_state_count od_is_row an_is_row od_write_table an_write_table od_is_number an_is_number od_read_numbers an_read_numbers od_is_head an_is_head od_row_of an_row_of od_read_table an_read_table od_law_far an_law_far od_law_parts an_law_parts od_law_is_integer an_law_is_integer od_law_table an_law_table od_law_same_table an_law_same_table od_law_text an_law_text od_law_numbers an_law_numbers od_law_is_head an_law_is_head od_law_row an_law_row od_law_reading an_law_reading od_law_sign_changed an_law_sign_changed od_law_word_changed an_law_word_changed od_law_line_changed an_law_line_changed od_law_changed an_law_changed od_law_right_text an_law_right_text od_law_large an_law_large od_law an_law : Option Addr}
    {sl_state_count sl_is_row sl_write_table sl_is_number sl_read_numbers sl_is_head sl_row_of sl_read_table sl_law_far sl_law_parts sl_law_is_integer sl_law_table sl_law_same_table sl_law_text sl_law_numbers sl_law_is_head sl_law_row sl_law_reading sl_law_sign_changed sl_law_word_changed sl_law_line_changed sl_law_changed sl_law_right_text sl_law_large sl_law : Array (Option Value)}
    {oc_state_count kV_state_count dc_state_count pm_state_count cd_state_count ct_state_count oc_is_row kV_is_row dc_is_row pm_is_row cd_is_row ct_is_row oc_write_table kV_write_table dc_write_table pm_write_table cd_write_table ct_write_table oc_is_number kV_is_number dc_is_number pm_is_number cd_is_number ct_is_number oc_read_numbers kV_read_numbers dc_read_numbers pm_read_numbers cd_read_numbers ct_read_numbers oc_is_head kV_is_head dc_is_head pm_is_head cd_is_head ct_is_head oc_row_of kV_row_of dc_row_of pm_row_of cd_row_of ct_row_of oc_read_table kV_read_table dc_read_table pm_read_table cd_read_table ct_read_table oc_law_far kV_law_far dc_law_far pm_law_far cd_law_far ct_law_far oc_law_parts kV_law_parts dc_law_parts pm_law_parts cd_law_parts ct_law_parts oc_law_is_integer kV_law_is_integer dc_law_is_integer pm_law_is_integer cd_law_is_integer ct_law_is_integer oc_law_table kV_law_table dc_law_table pm_law_table cd_law_table ct_law_table oc_law_same_table kV_law_same_table dc_law_same_table pm_law_same_table cd_law_same_table ct_law_same_table oc_law_text kV_law_text dc_law_text pm_law_text cd_law_text ct_law_text oc_law_numbers kV_law_numbers dc_law_numbers pm_law_numbers cd_law_numbers ct_law_numbers oc_law_is_head kV_law_is_head dc_law_is_head pm_law_is_head cd_law_is_head ct_law_is_head oc_law_row kV_law_row dc_law_row pm_law_row cd_law_row ct_law_row oc_law_reading kV_law_reading dc_law_reading pm_law_reading cd_law_reading ct_law_reading oc_law_sign_changed kV_law_sign_changed dc_law_sign_changed pm_law_sign_changed cd_law_sign_changed ct_law_sign_changed oc_law_word_changed kV_law_word_changed dc_law_word_changed pm_law_word_changed cd_law_word_changed ct_law_word_changed oc_law_line_changed kV_law_line_changed dc_law_line_changed pm_law_line_changed cd_law_line_changed ct_law_line_changed oc_law_changed kV_law_changed dc_law_changed pm_law_changed cd_law_changed ct_law_changed oc_law_right_text kV_law_right_text dc_law_right_text pm_law_right_text cd_law_right_text ct_law_right_text oc_law_large kV_law_large dc_law_large pm_law_large cd_law_large ct_law_large oc_law kV_law dc_law pm_law cd_law ct_law : Value}
    {t_MOST_INPUTS : _}
    {t_MOST_OUTPUTS : _}
    {t_MOST_PAIRS : _}
    {t_MOST_STATES : _}
    {t_ROWS : _}
    {C0 C1 : Addr}
    {xnm xq : Str}
    {xN xfi xcc xcda : Addr}
    {xbs xbm : List Value}
    {xsn : List Str}
    {xsub : List Value}
    {xab : Bool}
    {xcol : Option Bool}
    {xdd : Option Addr}
    {xk0 xk1 xk2 xk3 xk5 : Option Value}
    {xoc xkV xdc xpm xct xcl xccl : Value}
    {xod xan xcld xcdd : Option Addr}
    {xsl xcsl xccs : Array (Option Value)}
    {xvs : Array Value}
    {xfile : Str}
    {xtf : Tok}
    (a_state_count : PySem.W.nsIn K mainGlobals "state_count" = some (some (.ref f_state_count)))
    (l_state_count : K.lookup f_state_count = some ⟨oc_state_count, od_state_count, .func (PySem.W.fnOf "state_count" "state_count" (defArgs s_state_count) (defBody s_state_count) (defScope s_state_count) .none kV_state_count dc_state_count pm_state_count an_state_count cd_state_count ct_state_count), sl_state_count⟩)
    (c_state_count : PySem.W.codeIn K cd_state_count "state_count" = true)
    (k_state_count : PySem.W.keepIn K (.ref f_state_count) = true)
    (a_is_row : PySem.W.nsIn K mainGlobals "is_row" = some (some (.ref f_is_row)))
    (l_is_row : K.lookup f_is_row = some ⟨oc_is_row, od_is_row, .func (PySem.W.fnOf "is_row" "is_row" (defArgs s_is_row) (defBody s_is_row) (defScope s_is_row) .none kV_is_row dc_is_row pm_is_row an_is_row cd_is_row ct_is_row), sl_is_row⟩)
    (c_is_row : PySem.W.codeIn K cd_is_row "is_row" = true)
    (k_is_row : PySem.W.keepIn K (.ref f_is_row) = true)
    (a_write_table : PySem.W.nsIn K mainGlobals "write_table" = some (some (.ref f_write_table)))
    (l_write_table : K.lookup f_write_table = some ⟨oc_write_table, od_write_table, .func (PySem.W.fnOf "write_table" "write_table" (defArgs s_write_table) (defBody s_write_table) (defScope s_write_table) .none kV_write_table dc_write_table pm_write_table an_write_table cd_write_table ct_write_table), sl_write_table⟩)
    (c_write_table : PySem.W.codeIn K cd_write_table "write_table" = true)
    (k_write_table : PySem.W.keepIn K (.ref f_write_table) = true)
    (a_is_number : PySem.W.nsIn K mainGlobals "is_number" = some (some (.ref f_is_number)))
    (l_is_number : K.lookup f_is_number = some ⟨oc_is_number, od_is_number, .func (PySem.W.fnOf "is_number" "is_number" (defArgs s_is_number) (defBody s_is_number) (defScope s_is_number) .none kV_is_number dc_is_number pm_is_number an_is_number cd_is_number ct_is_number), sl_is_number⟩)
    (c_is_number : PySem.W.codeIn K cd_is_number "is_number" = true)
    (k_is_number : PySem.W.keepIn K (.ref f_is_number) = true)
    (a_read_numbers : PySem.W.nsIn K mainGlobals "read_numbers" = some (some (.ref f_read_numbers)))
    (l_read_numbers : K.lookup f_read_numbers = some ⟨oc_read_numbers, od_read_numbers, .func (PySem.W.fnOf "read_numbers" "read_numbers" (defArgs s_read_numbers) (defBody s_read_numbers) (defScope s_read_numbers) .none kV_read_numbers dc_read_numbers pm_read_numbers an_read_numbers cd_read_numbers ct_read_numbers), sl_read_numbers⟩)
    (c_read_numbers : PySem.W.codeIn K cd_read_numbers "read_numbers" = true)
    (k_read_numbers : PySem.W.keepIn K (.ref f_read_numbers) = true)
    (a_is_head : PySem.W.nsIn K mainGlobals "is_head" = some (some (.ref f_is_head)))
    (l_is_head : K.lookup f_is_head = some ⟨oc_is_head, od_is_head, .func (PySem.W.fnOf "is_head" "is_head" (defArgs s_is_head) (defBody s_is_head) (defScope s_is_head) .none kV_is_head dc_is_head pm_is_head an_is_head cd_is_head ct_is_head), sl_is_head⟩)
    (c_is_head : PySem.W.codeIn K cd_is_head "is_head" = true)
    (k_is_head : PySem.W.keepIn K (.ref f_is_head) = true)
    (a_row_of : PySem.W.nsIn K mainGlobals "row_of" = some (some (.ref f_row_of)))
    (l_row_of : K.lookup f_row_of = some ⟨oc_row_of, od_row_of, .func (PySem.W.fnOf "row_of" "row_of" (defArgs s_row_of) (defBody s_row_of) (defScope s_row_of) .none kV_row_of dc_row_of pm_row_of an_row_of cd_row_of ct_row_of), sl_row_of⟩)
    (c_row_of : PySem.W.codeIn K cd_row_of "row_of" = true)
    (k_row_of : PySem.W.keepIn K (.ref f_row_of) = true)
    (a_read_table : PySem.W.nsIn K mainGlobals "read_table" = some (some (.ref f_read_table)))
    (l_read_table : K.lookup f_read_table = some ⟨oc_read_table, od_read_table, .func (PySem.W.fnOf "read_table" "read_table" (defArgs s_read_table) (defBody s_read_table) (defScope s_read_table) .none kV_read_table dc_read_table pm_read_table an_read_table cd_read_table ct_read_table), sl_read_table⟩)
    (c_read_table : PySem.W.codeIn K cd_read_table "read_table" = true)
    (k_read_table : PySem.W.keepIn K (.ref f_read_table) = true)
    (a_law_far : PySem.W.nsIn K mainGlobals "_law_far" = some (some (.ref f_law_far)))
    (l_law_far : K.lookup f_law_far = some ⟨oc_law_far, od_law_far, .func (PySem.W.fnOf "_law_far" "_law_far" (defArgs s_law_far) (defBody s_law_far) (defScope s_law_far) .none kV_law_far dc_law_far pm_law_far an_law_far cd_law_far ct_law_far), sl_law_far⟩)
    (c_law_far : PySem.W.codeIn K cd_law_far "_law_far" = true)
    (k_law_far : PySem.W.keepIn K (.ref f_law_far) = true)
    (a_law_parts : PySem.W.nsIn K mainGlobals "_law_parts" = some (some (.ref f_law_parts)))
    (l_law_parts : K.lookup f_law_parts = some ⟨oc_law_parts, od_law_parts, .func (PySem.W.fnOf "_law_parts" "_law_parts" (defArgs s_law_parts) (defBody s_law_parts) (defScope s_law_parts) .none kV_law_parts dc_law_parts pm_law_parts an_law_parts cd_law_parts ct_law_parts), sl_law_parts⟩)
    (c_law_parts : PySem.W.codeIn K cd_law_parts "_law_parts" = true)
    (k_law_parts : PySem.W.keepIn K (.ref f_law_parts) = true)
    (a_law_is_integer : PySem.W.nsIn K mainGlobals "_law_is_integer" = some (some (.ref f_law_is_integer)))
    (l_law_is_integer : K.lookup f_law_is_integer = some ⟨oc_law_is_integer, od_law_is_integer, .func (PySem.W.fnOf "_law_is_integer" "_law_is_integer" (defArgs s_law_is_integer) (defBody s_law_is_integer) (defScope s_law_is_integer) .none kV_law_is_integer dc_law_is_integer pm_law_is_integer an_law_is_integer cd_law_is_integer ct_law_is_integer), sl_law_is_integer⟩)
    (c_law_is_integer : PySem.W.codeIn K cd_law_is_integer "_law_is_integer" = true)
    (k_law_is_integer : PySem.W.keepIn K (.ref f_law_is_integer) = true)
    (a_law_table : PySem.W.nsIn K mainGlobals "_law_table" = some (some (.ref f_law_table)))
    (l_law_table : K.lookup f_law_table = some ⟨oc_law_table, od_law_table, .func (PySem.W.fnOf "_law_table" "_law_table" (defArgs s_law_table) (defBody s_law_table) (defScope s_law_table) .none kV_law_table dc_law_table pm_law_table an_law_table cd_law_table ct_law_table), sl_law_table⟩)
    (c_law_table : PySem.W.codeIn K cd_law_table "_law_table" = true)
    (k_law_table : PySem.W.keepIn K (.ref f_law_table) = true)
    (a_law_same_table : PySem.W.nsIn K mainGlobals "_law_same_table" = some (some (.ref f_law_same_table)))
    (l_law_same_table : K.lookup f_law_same_table = some ⟨oc_law_same_table, od_law_same_table, .func (PySem.W.fnOf "_law_same_table" "_law_same_table" (defArgs s_law_same_table) (defBody s_law_same_table) (defScope s_law_same_table) .none kV_law_same_table dc_law_same_table pm_law_same_table an_law_same_table cd_law_same_table ct_law_same_table), sl_law_same_table⟩)
    (c_law_same_table : PySem.W.codeIn K cd_law_same_table "_law_same_table" = true)
    (k_law_same_table : PySem.W.keepIn K (.ref f_law_same_table) = true)
    (a_law_text : PySem.W.nsIn K mainGlobals "_law_text" = some (some (.ref f_law_text)))
    (l_law_text : K.lookup f_law_text = some ⟨oc_law_text, od_law_text, .func (PySem.W.fnOf "_law_text" "_law_text" (defArgs s_law_text) (defBody s_law_text) (defScope s_law_text) .none kV_law_text dc_law_text pm_law_text an_law_text cd_law_text ct_law_text), sl_law_text⟩)
    (c_law_text : PySem.W.codeIn K cd_law_text "_law_text" = true)
    (k_law_text : PySem.W.keepIn K (.ref f_law_text) = true)
    (a_law_numbers : PySem.W.nsIn K mainGlobals "_law_numbers" = some (some (.ref f_law_numbers)))
    (l_law_numbers : K.lookup f_law_numbers = some ⟨oc_law_numbers, od_law_numbers, .func (PySem.W.fnOf "_law_numbers" "_law_numbers" (defArgs s_law_numbers) (defBody s_law_numbers) (defScope s_law_numbers) .none kV_law_numbers dc_law_numbers pm_law_numbers an_law_numbers cd_law_numbers ct_law_numbers), sl_law_numbers⟩)
    (c_law_numbers : PySem.W.codeIn K cd_law_numbers "_law_numbers" = true)
    (k_law_numbers : PySem.W.keepIn K (.ref f_law_numbers) = true)
    (a_law_is_head : PySem.W.nsIn K mainGlobals "_law_is_head" = some (some (.ref f_law_is_head)))
    (l_law_is_head : K.lookup f_law_is_head = some ⟨oc_law_is_head, od_law_is_head, .func (PySem.W.fnOf "_law_is_head" "_law_is_head" (defArgs s_law_is_head) (defBody s_law_is_head) (defScope s_law_is_head) .none kV_law_is_head dc_law_is_head pm_law_is_head an_law_is_head cd_law_is_head ct_law_is_head), sl_law_is_head⟩)
    (c_law_is_head : PySem.W.codeIn K cd_law_is_head "_law_is_head" = true)
    (k_law_is_head : PySem.W.keepIn K (.ref f_law_is_head) = true)
    (a_law_row : PySem.W.nsIn K mainGlobals "_law_row" = some (some (.ref f_law_row)))
    (l_law_row : K.lookup f_law_row = some ⟨oc_law_row, od_law_row, .func (PySem.W.fnOf "_law_row" "_law_row" (defArgs s_law_row) (defBody s_law_row) (defScope s_law_row) .none kV_law_row dc_law_row pm_law_row an_law_row cd_law_row ct_law_row), sl_law_row⟩)
    (c_law_row : PySem.W.codeIn K cd_law_row "_law_row" = true)
    (k_law_row : PySem.W.keepIn K (.ref f_law_row) = true)
    (a_law_reading : PySem.W.nsIn K mainGlobals "_law_reading" = some (some (.ref f_law_reading)))
    (l_law_reading : K.lookup f_law_reading = some ⟨oc_law_reading, od_law_reading, .func (PySem.W.fnOf "_law_reading" "_law_reading" (defArgs s_law_reading) (defBody s_law_reading) (defScope s_law_reading) .none kV_law_reading dc_law_reading pm_law_reading an_law_reading cd_law_reading ct_law_reading), sl_law_reading⟩)
    (c_law_reading : PySem.W.codeIn K cd_law_reading "_law_reading" = true)
    (k_law_reading : PySem.W.keepIn K (.ref f_law_reading) = true)
    (a_law_sign_changed : PySem.W.nsIn K mainGlobals "_law_sign_changed" = some (some (.ref f_law_sign_changed)))
    (l_law_sign_changed : K.lookup f_law_sign_changed = some ⟨oc_law_sign_changed, od_law_sign_changed, .func (PySem.W.fnOf "_law_sign_changed" "_law_sign_changed" (defArgs s_law_sign_changed) (defBody s_law_sign_changed) (defScope s_law_sign_changed) .none kV_law_sign_changed dc_law_sign_changed pm_law_sign_changed an_law_sign_changed cd_law_sign_changed ct_law_sign_changed), sl_law_sign_changed⟩)
    (c_law_sign_changed : PySem.W.codeIn K cd_law_sign_changed "_law_sign_changed" = true)
    (k_law_sign_changed : PySem.W.keepIn K (.ref f_law_sign_changed) = true)
    (a_law_word_changed : PySem.W.nsIn K mainGlobals "_law_word_changed" = some (some (.ref f_law_word_changed)))
    (l_law_word_changed : K.lookup f_law_word_changed = some ⟨oc_law_word_changed, od_law_word_changed, .func (PySem.W.fnOf "_law_word_changed" "_law_word_changed" (defArgs s_law_word_changed) (defBody s_law_word_changed) (defScope s_law_word_changed) .none kV_law_word_changed dc_law_word_changed pm_law_word_changed an_law_word_changed cd_law_word_changed ct_law_word_changed), sl_law_word_changed⟩)
    (c_law_word_changed : PySem.W.codeIn K cd_law_word_changed "_law_word_changed" = true)
    (k_law_word_changed : PySem.W.keepIn K (.ref f_law_word_changed) = true)
    (a_law_line_changed : PySem.W.nsIn K mainGlobals "_law_line_changed" = some (some (.ref f_law_line_changed)))
    (l_law_line_changed : K.lookup f_law_line_changed = some ⟨oc_law_line_changed, od_law_line_changed, .func (PySem.W.fnOf "_law_line_changed" "_law_line_changed" (defArgs s_law_line_changed) (defBody s_law_line_changed) (defScope s_law_line_changed) .none kV_law_line_changed dc_law_line_changed pm_law_line_changed an_law_line_changed cd_law_line_changed ct_law_line_changed), sl_law_line_changed⟩)
    (c_law_line_changed : PySem.W.codeIn K cd_law_line_changed "_law_line_changed" = true)
    (k_law_line_changed : PySem.W.keepIn K (.ref f_law_line_changed) = true)
    (a_law_changed : PySem.W.nsIn K mainGlobals "_law_changed" = some (some (.ref f_law_changed)))
    (l_law_changed : K.lookup f_law_changed = some ⟨oc_law_changed, od_law_changed, .func (PySem.W.fnOf "_law_changed" "_law_changed" (defArgs s_law_changed) (defBody s_law_changed) (defScope s_law_changed) .none kV_law_changed dc_law_changed pm_law_changed an_law_changed cd_law_changed ct_law_changed), sl_law_changed⟩)
    (c_law_changed : PySem.W.codeIn K cd_law_changed "_law_changed" = true)
    (k_law_changed : PySem.W.keepIn K (.ref f_law_changed) = true)
    (a_law_right_text : PySem.W.nsIn K mainGlobals "_law_right_text" = some (some (.ref f_law_right_text)))
    (l_law_right_text : K.lookup f_law_right_text = some ⟨oc_law_right_text, od_law_right_text, .func (PySem.W.fnOf "_law_right_text" "_law_right_text" (defArgs s_law_right_text) (defBody s_law_right_text) (defScope s_law_right_text) .none kV_law_right_text dc_law_right_text pm_law_right_text an_law_right_text cd_law_right_text ct_law_right_text), sl_law_right_text⟩)
    (c_law_right_text : PySem.W.codeIn K cd_law_right_text "_law_right_text" = true)
    (k_law_right_text : PySem.W.keepIn K (.ref f_law_right_text) = true)
    (a_law_large : PySem.W.nsIn K mainGlobals "_law_large" = some (some (.ref f_law_large)))
    (l_law_large : K.lookup f_law_large = some ⟨oc_law_large, od_law_large, .func (PySem.W.fnOf "_law_large" "_law_large" (defArgs s_law_large) (defBody s_law_large) (defScope s_law_large) .none kV_law_large dc_law_large pm_law_large an_law_large cd_law_large ct_law_large), sl_law_large⟩)
    (c_law_large : PySem.W.codeIn K cd_law_large "_law_large" = true)
    (k_law_large : PySem.W.keepIn K (.ref f_law_large) = true)
    (a_law : PySem.W.nsIn K mainGlobals "law" = some (some (.ref f_law)))
    (l_law : K.lookup f_law = some ⟨oc_law, od_law, .func (PySem.W.fnOf "law" "law" (defArgs s_law) (defBody s_law) (defScope s_law) .none kV_law dc_law pm_law an_law cd_law ct_law), sl_law⟩)
    (c_law : PySem.W.codeIn K cd_law "law" = true)
    (k_law : PySem.W.keepIn K (.ref f_law) = true)
    (n_ValueError : PySem.W.nsIn K mainGlobals "ValueError" = some none)
    (n_all : PySem.W.nsIn K mainGlobals "all" = some none)
    (n_bool : PySem.W.nsIn K mainGlobals "bool" = some none)
    (n_enumerate : PySem.W.nsIn K mainGlobals "enumerate" = some none)
    (n_int : PySem.W.nsIn K mainGlobals "int" = some none)
    (n_isinstance : PySem.W.nsIn K mainGlobals "isinstance" = some none)
    (n_len : PySem.W.nsIn K mainGlobals "len" = some none)
    (n_max : PySem.W.nsIn K mainGlobals "max" = some none)
    (n_range : PySem.W.nsIn K mainGlobals "range" = some none)
    (n_str : PySem.W.nsIn K mainGlobals "str" = some none)
    (n_tuple : PySem.W.nsIn K mainGlobals "tuple" = some none)
    (z_MOST_INPUTS : PySem.W.nsIn K mainGlobals "MOST_INPUTS" = some (some (.int (6) t_MOST_INPUTS)))
    (z_MOST_OUTPUTS : PySem.W.nsIn K mainGlobals "MOST_OUTPUTS" = some (some (.int (6) t_MOST_OUTPUTS)))
    (z_MOST_PAIRS : PySem.W.nsIn K mainGlobals "MOST_PAIRS" = some (some (.int (1024) t_MOST_PAIRS)))
    (z_MOST_STATES : PySem.W.nsIn K mainGlobals "MOST_STATES" = some (some (.int (32) t_MOST_STATES)))
    (z_ROWS : PySem.W.nsIn K mainGlobals "ROWS" = some (some (.int (2) t_ROWS)))
    (g_0 : PySem.W.nsIn K mainGlobals "InvalidTable" = some (some (.ref C0)))
    (g_1 : PySem.W.nsIn K mainGlobals "GatesError" = some (some (.ref C1)))
    (ec_0_0 : PySem.W.findIn K (.ref C0) "__getattribute__" = some (some (.builtin "BaseException.__getattribute__")))
    (ec_0_1 : PySem.W.findIn K (.ref C0) "__getattr__" = some none)
    (ec_0_2 : PySem.W.subIn K (.ref C0) (.type "BaseException") = some true)
    (ec_0_3 : PySem.W.hasDictIn K C0 = true)
    (ec_0_4 : PySem.W.findIn K (.ref C0) "__class__" = some (some (.builtin "object.__class__")))
    (ec_0_5 : PySem.W.specialIn K (.builtin "object.__class__") "__get__" = some (some (.builtin "getset_descriptor.__get__")))
    (ec_0_6 : PySem.W.takesIn K (.builtin "object.__class__") = some true)
    (ec_0_7 : PySem.W.mroIn K C0 (.type "object") = some true)
    (ex_0 : PySem.W.exmOne K (.ref C0) (.ref C1) = some true)
    (kit_0_0 : PySem.W.kitOne K (.ref C0) (.ref C0) = some true)
    (kit_v0 : PySem.W.kitOne K (.ref C0) (.type "ValueError") = some true)
    (xx_cls : K.lookup C0 = some (excClassObj xnm xq C0 xN xbs xbm true xsn xsub xab xcol xdd xk0 xk1 xk2 xk3 xk5 "ValueError.__new__"))
    (xz_ve : PySem.HandSPX.refsVE xbm = true)
    (xy_sa : PySem.W.findIn K (.ref C0) "__setattr__" = some (some (.builtin "object.__setattr__")))
    (xy_ex : PySem.W.subIn K (.ref C0) (.type "BaseException") = some true)
    (xy_ty : PySem.W.typeIn K (.ref C0) = some (.type "type"))
    (xy_k : PySem.W.keepIn K (.ref C0) = true)
    (xy_i : PySem.W.findIn K (.ref C0) "__init__" = some (some (.ref xfi)))
    (xy_t : PySem.W.typeIn K (.ref xfi) = some (.type "function"))
    (xy_no : PySem.W.findIn K (.ref C0) "line" = some none)
    (xy_lk : K.lookup xfi = some ⟨xoc, xod, .func (PySem.W.fnX "__init__" "InvalidTable.__init__" (defArgs s_init) (defBody s_init) (defScope s_init) [("__class__", xcc)] .none xkV xdc xpm xan (.ref xcda) xct), xsl⟩)
    (xy_cd : PySem.W.codeIn K (.ref xcda) "InvalidTable.__init__" = true)
    (xy_cell : K.lookup xcc = some (⟨xcl, xcld, .cell (some (.ref C0)), xcsl⟩ : Obj))
    (xy_code : K.lookup xcda = some (⟨xccl, xcdd, .fields xvs, xccs⟩ : Obj))
    (xz_vs : xvs[2]? = some (.str xfile xtf))
    (xz_file : ((P.main.file : Str) == xfile) = true)
    (xy_sup : PySem.W.nsIn K mainGlobals "super" = some none)
    (xz_top : (P.main.scope.names.lookup ("super" : Str)).isSome = false)
    (xy_opq : PySem.W.nsIn K cStatics "thirdparty.any" = some none)
    (xs_along : PySem.W.ks_superIn K C0 C0 "__init__" = some (some (.builtin "ValueError.__init__")))
    (xy_mro : PySem.W.mroIn K C0 (.ref C0) = some true)
    (xy_mve : PySem.W.mroIn K C0 (.type "ValueError") = some true)
    : ∃ fd : FuncData, (∀ (s : Shared) (v : Value), BindsTo s fd ⟨[v], []⟩ [("script", v)]) ∧ ∀ base : Heap, K.In base → base.Ns mainGlobals mg → FnOk P w K mg base (L2.CX P w) 5 fa fd ["script"] (spLaw K) := by
  have e := hfa.symm.trans (PySem.W.mg_of X G a_law)
  cases e
  have T : Txt K mg (fun k => ([C0, C1] : List Addr).getD k 0) := { n_ValueError := PySem.W.mg_none_of X G n_ValueError, n_all := PySem.W.mg_none_of X G n_all, n_bool := PySem.W.mg_none_of X G n_bool, n_enumerate := PySem.W.mg_none_of X G n_enumerate, n_int := PySem.W.mg_none_of X G n_int, n_isinstance := PySem.W.mg_none_of X G n_isinstance, n_len := PySem.W.mg_none_of X G n_len, n_max := PySem.W.mg_none_of X G n_max, n_range := PySem.W.mg_none_of X G n_range, n_str := PySem.W.mg_none_of X G n_str, n_tuple := PySem.W.mg_none_of X G n_tuple, c_MOST_INPUTS := ⟨t_MOST_INPUTS, PySem.W.mg_of X G z_MOST_INPUTS⟩, c_MOST_OUTPUTS := ⟨t_MOST_OUTPUTS, PySem.W.mg_of X G z_MOST_OUTPUTS⟩, c_MOST_PAIRS := ⟨t_MOST_PAIRS, PySem.W.mg_of X G z_MOST_PAIRS⟩, c_MOST_STATES := ⟨t_MOST_STATES, PySem.W.mg_of X G z_MOST_STATES⟩, c_ROWS := ⟨t_ROWS, PySem.W.mg_of X G z_ROWS⟩, g_0 := PySem.W.mg_of X G g_0, g_1 := PySem.W.mg_of X G g_1, ec_0 := ⟨ec_0_0, ec_0_1, ec_0_2, ec_0_3, ec_0_4, ec_0_5, ec_0_6, ec_0_7⟩, ex_0 := ex_0, kit_0_0 := kit_0_0, kv_0 := kit_v0 }
  refine ⟨PySem.W.fnOf "law" "law" (defArgs s_law) (defBody s_law) (defScope s_law) .none kV_law dc_law pm_law an_law cd_law ct_law, fun s v => .of_eq rfl, fun base _ _ => ?_⟩
  have SC : SupC P K mg C0 xcc xcda := ⟨⟨⟨_, _, _, _, _, _, _, _, _, _, _, _, _, _, _, xx_cls, xz_ve⟩, xy_sa, xy_ex, xy_ty, xy_k⟩, ⟨_, _, _, xy_cell⟩, ⟨_, _, _, _, _, _, xy_code, xz_vs, xz_file⟩, PySem.W.mg_none_of X G xy_sup, xz_top, xy_opq, xs_along, xy_mro, xy_mve⟩
  have XI0 : XIn P w K mg base C0 1 "line" "line" := xin_mk xy_lk xy_cd SC xy_i xy_t xy_no
  have F_law_parts := fun_mk (st := s_law_parts) l_law_parts c_law_parts k_law_parts
  have O_law_parts := ok_law_parts (P := P) (w := w) (base := base) F_law_parts T 
  have C_law_parts : Cal P w K mg base "_law_parts" 1 ["cell", "sizes"] _ := ⟨_, _, O_law_parts, PySem.W.mg_of X G a_law_parts, k_law_parts, F_law_parts.binds (ps := ["cell", "sizes"]) fun _ _ _ _ _ _ us hl => match us, hl with | [_, _], _ => rfl⟩
  have F_law_far := fun_mk (st := s_law_far) l_law_far c_law_far k_law_far
  have O_law_far := ok_law_far (P := P) (w := w) (base := base) F_law_far T 
  have C_law_far : Cal P w K mg base "_law_far" 1 ["script", "k"] _ := ⟨_, _, O_law_far, PySem.W.mg_of X G a_law_far, k_law_far, F_law_far.binds (ps := ["script", "k"]) fun _ _ _ _ _ _ us hl => match us, hl with | [_, _], _ => rfl⟩
  have F_law_large := fun_mk (st := s_law_large) l_law_large c_law_large k_law_large
  have O_law_large := ok_law_large (P := P) (w := w) (base := base) F_law_large T 
  have C_law_large : Cal P w K mg base "_law_large" 1 ["parts"] _ := ⟨_, _, O_law_large, PySem.W.mg_of X G a_law_large, k_law_large, F_law_large.binds (ps := ["parts"]) fun _ _ _ _ _ _ us hl => match us, hl with | [_], _ => rfl⟩
  have F_law_text := fun_mk (st := s_law_text) l_law_text c_law_text k_law_text
  have O_law_text := ok_law_text (P := P) (w := w) (base := base) F_law_text T 
  have C_law_text : Cal P w K mg base "_law_text" 1 ["table"] _ := ⟨_, _, O_law_text, PySem.W.mg_of X G a_law_text, k_law_text, F_law_text.binds (ps := ["table"]) fun _ _ _ _ _ _ us hl => match us, hl with | [_], _ => rfl⟩
  have F_state_count := fun_mk (st := s_state_count) l_state_count c_state_count k_state_count
  have O_state_count := ok_state_count (P := P) (w := w) (base := base) F_state_count T 
  have C_state_count : Cal P w K mg base "state_count" 1 ["table"] _ := ⟨_, _, O_state_count, PySem.W.mg_of X G a_state_count, k_state_count, F_state_count.binds (ps := ["table"]) fun _ _ _ _ _ _ us hl => match us, hl with | [_], _ => rfl⟩
  have F_write_table := fun_mk (st := s_write_table) l_write_table c_write_table k_write_table
  have O_write_table := ok_write_table (P := P) (w := w) (base := base) F_write_table T C_state_count
  have C_write_table : Cal P w K mg base "write_table" 2 ["table"] _ := ⟨_, _, O_write_table, PySem.W.mg_of X G a_write_table, k_write_table, F_write_table.binds (ps := ["table"]) fun _ _ _ _ _ _ us hl => match us, hl with | [_], _ => rfl⟩
  have F_law_numbers := fun_mk (st := s_law_numbers) l_law_numbers c_law_numbers k_law_numbers
  have O_law_numbers := ok_law_numbers (P := P) (w := w) (base := base) F_law_numbers T 
  have C_law_numbers : Cal P w K mg base "_law_numbers" 1 ["line"] _ := ⟨_, _, O_law_numbers, PySem.W.mg_of X G a_law_numbers, k_law_numbers, F_law_numbers.binds (ps := ["line"]) fun _ _ _ _ _ _ us hl => match us, hl with | [_], _ => rfl⟩
  have F_law_is_head := fun_mk (st := s_law_is_head) l_law_is_head c_law_is_head k_law_is_head
  have O_law_is_head := ok_law_is_head (P := P) (w := w) (base := base) F_law_is_head T 
  have C_law_is_head : Cal P w K mg base "_law_is_head" 1 ["numbers"] _ := ⟨_, _, O_law_is_head, PySem.W.mg_of X G a_law_is_head, k_law_is_head, F_law_is_head.binds (ps := ["numbers"]) fun _ _ _ _ _ _ us hl => match us, hl with | [_], _ => rfl⟩
  have F_law_row := fun_mk (st := s_law_row) l_law_row c_law_row k_law_row
  have O_law_row := ok_law_row (P := P) (w := w) (base := base) F_law_row T 
  have C_law_row : Cal P w K mg base "_law_row" 1 ["head", "numbers"] _ := ⟨_, _, O_law_row, PySem.W.mg_of X G a_law_row, k_law_row, F_law_row.binds (ps := ["head", "numbers"]) fun _ _ _ _ _ _ us hl => match us, hl with | [_, _], _ => rfl⟩
  have F_law_reading := fun_mk (st := s_law_reading) l_law_reading c_law_reading k_law_reading
  have O_law_reading := ok_law_reading (P := P) (w := w) (base := base) F_law_reading T C_law_numbers C_law_is_head C_law_row
  have C_law_reading : Cal P w K mg base "_law_reading" 2 ["text"] _ := ⟨_, _, O_law_reading, PySem.W.mg_of X G a_law_reading, k_law_reading, F_law_reading.binds (ps := ["text"]) fun _ _ _ _ _ _ us hl => match us, hl with | [_], _ => rfl⟩
  have F_law_is_integer := fun_mk (st := s_law_is_integer) l_law_is_integer c_law_is_integer k_law_is_integer
  have O_law_is_integer := ok_law_is_integer (P := P) (w := w) (base := base) F_law_is_integer T 
  have C_law_is_integer : Cal P w K mg base "_law_is_integer" 1 ["actual"] _ := ⟨_, _, O_law_is_integer, PySem.W.mg_of X G a_law_is_integer, k_law_is_integer, F_law_is_integer.binds (ps := ["actual"]) fun _ _ _ _ _ _ us hl => match us, hl with | [_], _ => rfl⟩
  have F_law_same_table := fun_mk (st := s_law_same_table) l_law_same_table c_law_same_table k_law_same_table
  have O_law_same_table := ok_law_same_table (P := P) (w := w) (base := base) F_law_same_table T C_law_is_integer
  have C_law_same_table : Cal P w K mg base "_law_same_table" 2 ["actual", "expected"] _ := ⟨_, _, O_law_same_table, PySem.W.mg_of X G a_law_same_table, k_law_same_table, F_law_same_table.binds (ps := ["actual", "expected"]) fun _ _ _ _ _ _ us hl => match us, hl with | [_, _], _ => rfl⟩
  have F_is_number := fun_mk (st := s_is_number) l_is_number c_is_number k_is_number
  have O_is_number := ok_is_number (P := P) (w := w) (base := base) F_is_number T 
  have C_is_number : Cal P w K mg base "is_number" 1 ["word"] _ := ⟨_, _, O_is_number, PySem.W.mg_of X G a_is_number, k_is_number, F_is_number.binds (ps := ["word"]) fun _ _ _ _ _ _ us hl => match us, hl with | [_], _ => rfl⟩
  have F_read_numbers := fun_mk (st := s_read_numbers) l_read_numbers c_read_numbers k_read_numbers
  have O_read_numbers := ok_read_numbers (P := P) (w := w) (base := base) F_read_numbers T C_is_number
  have C_read_numbers : Cal P w K mg base "read_numbers" 2 ["line"] _ := ⟨_, _, O_read_numbers, PySem.W.mg_of X G a_read_numbers, k_read_numbers, F_read_numbers.binds (ps := ["line"]) fun _ _ _ _ _ _ us hl => match us, hl with | [_], _ => rfl⟩
  have F_is_head := fun_mk (st := s_is_head) l_is_head c_is_head k_is_head
  have O_is_head := ok_is_head (P := P) (w := w) (base := base) F_is_head T 
  have C_is_head : Cal P w K mg base "is_head" 1 ["numbers"] _ := ⟨_, _, O_is_head, PySem.W.mg_of X G a_is_head, k_is_head, F_is_head.binds (ps := ["numbers"]) fun _ _ _ _ _ _ us hl => match us, hl with | [_], _ => rfl⟩
  have F_is_row := fun_mk (st := s_is_row) l_is_row c_is_row k_is_row
  have O_is_row := ok_is_row (P := P) (w := w) (base := base) F_is_row T 
  have C_is_row : Cal P w K mg base "is_row" 1 ["row", "length", "states", "answers"] _ := ⟨_, _, O_is_row, PySem.W.mg_of X G a_is_row, k_is_row, F_is_row.binds (ps := ["row", "length", "states", "answers"]) fun _ _ _ _ _ _ us hl => match us, hl with | [_, _, _, _], _ => rfl⟩
  have F_row_of := fun_mk (st := s_row_of) l_row_of c_row_of k_row_of
  have O_row_of := ok_row_of (P := P) (w := w) (base := base) F_row_of T C_is_row
  have C_row_of : Cal P w K mg base "row_of" 2 ["head", "numbers"] _ := ⟨_, _, O_row_of, PySem.W.mg_of X G a_row_of, k_row_of, F_row_of.binds (ps := ["head", "numbers"]) fun _ _ _ _ _ _ us hl => match us, hl with | [_, _], _ => rfl⟩
  have F_read_table := fun_mk (st := s_read_table) l_read_table c_read_table k_read_table
  have O_read_table := ok_read_table (P := P) (w := w) (base := base) F_read_table T C_read_numbers C_is_head C_row_of XI0
  have C_read_table : Cal P w K mg base "read_table" 3 ["text"] _ := ⟨_, _, O_read_table, PySem.W.mg_of X G a_read_table, k_read_table, F_read_table.binds (ps := ["text"]) fun _ _ _ _ _ _ us hl => match us, hl with | [_], _ => rfl⟩
  have F_law_right_text := fun_mk (st := s_law_right_text) l_law_right_text c_law_right_text k_law_right_text
  have A_law_is_integer : CalA P w K mg base "_law_is_integer" 1 ["actual"] _ := ⟨_, _, okA_law_is_integer (P := P) (w := w) (base := base) F_law_is_integer T, PySem.W.mg_of X G a_law_is_integer, k_law_is_integer, F_law_is_integer.binds (ps := ["actual"]) fun _ _ _ _ _ _ us hl => match us, hl with | [_], _ => rfl⟩
  have O_law_right_text := ok_law_right_text (P := P) (w := w) (base := base) F_law_right_text T C_law_reading C_law_same_table C_read_table XI0 A_law_is_integer
  have C_law_right_text : Cal P w K mg base "_law_right_text" 4 ["text"] _ := ⟨_, _, O_law_right_text, PySem.W.mg_of X G a_law_right_text, k_law_right_text, F_law_right_text.binds (ps := ["text"]) fun _ _ _ _ _ _ us hl => match us, hl with | [_], _ => rfl⟩
  have F_law_sign_changed := fun_mk (st := s_law_sign_changed) l_law_sign_changed c_law_sign_changed k_law_sign_changed
  have O_law_sign_changed := ok_law_sign_changed (P := P) (w := w) (base := base) F_law_sign_changed T 
  have C_law_sign_changed : Cal P w K mg base "_law_sign_changed" 1 ["text", "parts"] _ := ⟨_, _, O_law_sign_changed, PySem.W.mg_of X G a_law_sign_changed, k_law_sign_changed, F_law_sign_changed.binds (ps := ["text", "parts"]) fun _ _ _ _ _ _ us hl => match us, hl with | [_, _], _ => rfl⟩
  have F_law_word_changed := fun_mk (st := s_law_word_changed) l_law_word_changed c_law_word_changed k_law_word_changed
  have O_law_word_changed := ok_law_word_changed (P := P) (w := w) (base := base) F_law_word_changed T 
  have C_law_word_changed : Cal P w K mg base "_law_word_changed" 1 ["text", "parts"] _ := ⟨_, _, O_law_word_changed, PySem.W.mg_of X G a_law_word_changed, k_law_word_changed, F_law_word_changed.binds (ps := ["text", "parts"]) fun _ _ _ _ _ _ us hl => match us, hl with | [_, _], _ => rfl⟩
  have F_law_line_changed := fun_mk (st := s_law_line_changed) l_law_line_changed c_law_line_changed k_law_line_changed
  have O_law_line_changed := ok_law_line_changed (P := P) (w := w) (base := base) F_law_line_changed T 
  have C_law_line_changed : Cal P w K mg base "_law_line_changed" 1 ["text", "parts"] _ := ⟨_, _, O_law_line_changed, PySem.W.mg_of X G a_law_line_changed, k_law_line_changed, F_law_line_changed.binds (ps := ["text", "parts"]) fun _ _ _ _ _ _ us hl => match us, hl with | [_, _], _ => rfl⟩
  have F_law_changed := fun_mk (st := s_law_changed) l_law_changed c_law_changed k_law_changed
  have O_law_changed := ok_law_changed (P := P) (w := w) (base := base) F_law_changed T C_law_parts C_law_sign_changed C_law_word_changed C_law_line_changed
  have C_law_changed : Cal P w K mg base "_law_changed" 2 ["text", "cell"] _ := ⟨_, _, O_law_changed, PySem.W.mg_of X G a_law_changed, k_law_changed, F_law_changed.binds (ps := ["text", "cell"]) fun _ _ _ _ _ _ us hl => match us, hl with | [_, _], _ => rfl⟩
  have F_law_table := fun_mk (st := s_law_table) l_law_table c_law_table k_law_table
  have O_law_table := ok_law_table (P := P) (w := w) (base := base) F_law_table T C_law_parts C_law_far
  have C_law_table : Cal P w K mg base "_law_table" 2 ["script", "at", "most"] _ := ⟨_, _, O_law_table, PySem.W.mg_of X G a_law_table, k_law_table, F_law_table.binds (ps := ["script", "at", "most"]) fun _ _ _ _ _ _ us hl => match us, hl with | [_, _, _], _ => rfl⟩
  have F_law := fun_mk (st := s_law) l_law c_law k_law
  have O_law := ok_law (P := P) (w := w) (base := base) F_law T C_law_parts C_law_far C_law_large C_law_text C_write_table C_law_right_text C_law_changed C_law_table
  exact O_law.imp spLaw_imp
theorem walk {l : PySem.W.OpenLaw} {q : Program} {loose : List Str} {XP : (Str → Option Value) → Heap → Prop} {YP : World → Heap → Prop} {d : DefRec} {K : Params → PySem.W.Frag} (hn : l.most = some 63) (hdf : d.params.defaults = [])
    (hY : ∀ (w : World) (h : Heap), YP w h → (K w.params).In h)
    (F : ∀ (w : World) (mg : Str → Option Value) (fa : Addr) (h : Heap), (K w.params).In h → h.Ns mainGlobals mg → mg d.name = some (.ref fa) →
      ∃ fd : FuncData, (∀ (s : Shared) (u : Value), BindsTo s fd ⟨[u], []⟩ [("script", u)]) ∧ ∀ base : Heap, (K w.params).In base → base.Ns mainGlobals mg → FnOk l.prog w (K w.params) mg base (L2.CX l.prog w) 5 fa fd ["script"] (spLaw (K w.params))) :
    PySem.W.WalkO q loose XP YP l.row.toRowW d [] (fun f vs => PySem.call f vs) :=
  L2.walk_of (n := 63) (k := 5) (x := "script") (CX := fun w => L2.CX l.prog w) (sp := fun w => spLaw (K w.params)) hn (by decide) hdf ⟨rfl, by decide, by decide⟩ hY F (fun _ _ a ns hl _ hS => ⟨a, ns, rfl, hS, hl, fun _ => rfl⟩) fun _ _ _ _ _ ⟨_, _, _, _, _, _, _, _, _, _, _, _, z⟩ => z
end G96
open PySem PySem.W PyProof.Rows in
set_option maxRecDepth 100000 in
set_option maxHeartbeats 0 in
theorem PySem.Challenge.cw_pinsalone_k96_table_texts_holds : PySem.Challenge.rw_pinsalone_k96_table_texts.Holds := by
  w_on; o_law; k_head; (case hw => w_witness2)
  k_fill
  refine G96.walk (l := PySem.Challenge.rw_pinsalone_k96_table_texts) rfl rfl (fun w h Y => PySem.W.kIn_of Y) ?F
  case F =>
    intro w mg fa h KX G hmg
    refine' G96.all_mk KX G hmg ?a_state_count ?l_state_count ?c_state_count ?k_state_count ?a_is_row ?l_is_row ?c_is_row ?k_is_row ?a_write_table ?l_write_table ?c_write_table ?k_write_table ?a_is_number ?l_is_number ?c_is_number ?k_is_number ?a_read_numbers ?l_read_numbers ?c_read_numbers ?k_read_numbers ?a_is_head ?l_is_head ?c_is_head ?k_is_head ?a_row_of ?l_row_of ?c_row_of ?k_row_of ?a_read_table ?l_read_table ?c_read_table ?k_read_table ?a_law_far ?l_law_far ?c_law_far ?k_law_far ?a_law_parts ?l_law_parts ?c_law_parts ?k_law_parts ?a_law_is_integer ?l_law_is_integer ?c_law_is_integer ?k_law_is_integer ?a_law_table ?l_law_table ?c_law_table ?k_law_table ?a_law_same_table ?l_law_same_table ?c_law_same_table ?k_law_same_table ?a_law_text ?l_law_text ?c_law_text ?k_law_text ?a_law_numbers ?l_law_numbers ?c_law_numbers ?k_law_numbers ?a_law_is_head ?l_law_is_head ?c_law_is_head ?k_law_is_head ?a_law_row ?l_law_row ?c_law_row ?k_law_row ?a_law_reading ?l_law_reading ?c_law_reading ?k_law_reading ?a_law_sign_changed ?l_law_sign_changed ?c_law_sign_changed ?k_law_sign_changed ?a_law_word_changed ?l_law_word_changed ?c_law_word_changed ?k_law_word_changed ?a_law_line_changed ?l_law_line_changed ?c_law_line_changed ?k_law_line_changed ?a_law_changed ?l_law_changed ?c_law_changed ?k_law_changed ?a_law_right_text ?l_law_right_text ?c_law_right_text ?k_law_right_text ?a_law_large ?l_law_large ?c_law_large ?k_law_large ?a_law ?l_law ?c_law ?k_law ?n_ValueError ?n_all ?n_bool ?n_enumerate ?n_int ?n_isinstance ?n_len ?n_max ?n_range ?n_str ?n_tuple ?z_MOST_INPUTS ?z_MOST_OUTPUTS ?z_MOST_PAIRS ?z_MOST_STATES ?z_ROWS ?g_0 ?g_1 ?ec_0_0 ?ec_0_1 ?ec_0_2 ?ec_0_3 ?ec_0_4 ?ec_0_5 ?ec_0_6 ?ec_0_7 ?ex_0 ?kit_0_0 ?kit_v0 ?xx_cls ?xz_ve ?xy_sa ?xy_ex ?xy_ty ?xy_k ?xy_i ?xy_t ?xy_no ?xy_lk ?xy_cd ?xy_cell ?xy_code ?xz_vs ?xz_file ?xy_sup ?xz_top ?xy_opq ?xs_along ?xy_mro ?xy_mve
    (case a_state_count => k_is)
    (case l_state_count => k_is)
    (case c_state_count => k_is)
    (case k_state_count => k_is)
    (case a_is_row => k_is)
    (case l_is_row => k_is)
    (case c_is_row => k_is)
    (case k_is_row => k_is)
    (case a_write_table => k_is)
    (case l_write_table => k_is)
    (case c_write_table => k_is)
    (case k_write_table => k_is)
    (case a_is_number => k_is)
    (case l_is_number => k_is)
    (case c_is_number => k_is)
    (case k_is_number => k_is)
    (case a_read_numbers => k_is)
    (case l_read_numbers => k_is)
    (case c_read_numbers => k_is)
    (case k_read_numbers => k_is)
    (case a_is_head => k_is)
    (case l_is_head => k_is)
    (case c_is_head => k_is)
    (case k_is_head => k_is)
    (case a_row_of => k_is)
    (case l_row_of => k_is)
    (case c_row_of => k_is)
    (case k_row_of => k_is)
    (case a_read_table => k_is)
    (case l_read_table => k_is)
    (case c_read_table => k_is)
    (case k_read_table => k_is)
    (case a_law_far => k_is)
    (case l_law_far => k_is)
    (case c_law_far => k_is)
    (case k_law_far => k_is)
    (case a_law_parts => k_is)
    (case l_law_parts => k_is)
    (case c_law_parts => k_is)
    (case k_law_parts => k_is)
    (case a_law_is_integer => k_is)
    (case l_law_is_integer => k_is)
    (case c_law_is_integer => k_is)
    (case k_law_is_integer => k_is)
    (case a_law_table => k_is)
    (case l_law_table => k_is)
    (case c_law_table => k_is)
    (case k_law_table => k_is)
    (case a_law_same_table => k_is)
    (case l_law_same_table => k_is)
    (case c_law_same_table => k_is)
    (case k_law_same_table => k_is)
    (case a_law_text => k_is)
    (case l_law_text => k_is)
    (case c_law_text => k_is)
    (case k_law_text => k_is)
    (case a_law_numbers => k_is)
    (case l_law_numbers => k_is)
    (case c_law_numbers => k_is)
    (case k_law_numbers => k_is)
    (case a_law_is_head => k_is)
    (case l_law_is_head => k_is)
    (case c_law_is_head => k_is)
    (case k_law_is_head => k_is)
    (case a_law_row => k_is)
    (case l_law_row => k_is)
    (case c_law_row => k_is)
    (case k_law_row => k_is)
    (case a_law_reading => k_is)
    (case l_law_reading => k_is)
    (case c_law_reading => k_is)
    (case k_law_reading => k_is)
    (case a_law_sign_changed => k_is)
    (case l_law_sign_changed => k_is)
    (case c_law_sign_changed => k_is)
    (case k_law_sign_changed => k_is)
    (case a_law_word_changed => k_is)
    (case l_law_word_changed => k_is)
    (case c_law_word_changed => k_is)
    (case k_law_word_changed => k_is)
    (case a_law_line_changed => k_is)
    (case l_law_line_changed => k_is)
    (case c_law_line_changed => k_is)
    (case k_law_line_changed => k_is)
    (case a_law_changed => k_is)
    (case l_law_changed => k_is)
    (case c_law_changed => k_is)
    (case k_law_changed => k_is)
    (case a_law_right_text => k_is)
    (case l_law_right_text => k_is)
    (case c_law_right_text => k_is)
    (case k_law_right_text => k_is)
    (case a_law_large => k_is)
    (case l_law_large => k_is)
    (case c_law_large => k_is)
    (case k_law_large => k_is)
    (case a_law => k_is)
    (case l_law => k_is)
    (case c_law => k_is)
    (case k_law => k_is)
    (case n_ValueError => k_is)
    (case n_all => k_is)
    (case n_bool => k_is)
    (case n_enumerate => k_is)
    (case n_int => k_is)
    (case n_isinstance => k_is)
    (case n_len => k_is)
    (case n_max => k_is)
    (case n_range => k_is)
    (case n_str => k_is)
    (case n_tuple => k_is)
    (case z_MOST_INPUTS => k_is)
    (case z_MOST_OUTPUTS => k_is)
    (case z_MOST_PAIRS => k_is)
    (case z_MOST_STATES => k_is)
    (case z_ROWS => k_is)
    (case g_0 => k_is)
    (case g_1 => k_is)
    (case ec_0_0 => k_is)
    (case ec_0_1 => k_is)
    (case ec_0_2 => k_is)
    (case ec_0_3 => k_is)
    (case ec_0_4 => k_is)
    (case ec_0_5 => k_is)
    (case ec_0_6 => k_is)
    (case ec_0_7 => k_is)
    (case ex_0 => kts_exm)
    (case kit_0_0 => kit_is)
    (case kit_v0 => kit_is)
    (case xx_cls => k_is)
    (case xz_ve => first | rfl | kernel_rfl | decide +kernel)
    (case xy_sa => k_is)
    (case xy_ex => k_is)
    (case xy_ty => k_is)
    (case xy_k => k_is)
    (case xy_i => k_is)
    (case xy_t => k_is)
    (case xy_no => k_is)
    (case xy_lk => k_is)
    (case xy_cd => k_is)
    (case xy_cell => k_is)
    (case xy_code => k_is)
    (case xz_vs => first | rfl | kernel_rfl | decide +kernel)
    (case xz_file => first | rfl | kernel_rfl | decide +kernel)
    (case xy_sup => k_is)
    (case xz_top => first | rfl | kernel_rfl | decide +kernel)
    (case xy_opq => k_is)
    (case xs_along => ks_is)
    (case xy_mro => k_is)
    (case xy_mve => k_is)

