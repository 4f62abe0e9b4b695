/- Contracts of this program's functions and the laws that they need. -/
import Derived.Lib.TrailingZeros
import Derived.LaidMore
import Derived.OpenShut
import Derived.Stop.Joined
import Derived.MakeChecks
import Derived.Shelf.Spec.TrailingZeros
import Derived.Test.YtibignmpjeemeaaGreatDoorP6
set_option linter.unusedVariables false
set_option linter.unusedSimpArgs false
set_option linter.unusedSectionVars false
namespace Go.Hy
def Rb (k n : Int) (nm : ByteArray) (r : List Cl) : Prop :=
 (k ≠ 1 → n = 0) ∧ (k ≠ 2 → nm.toList = (ByteArray.mk #[]).toList) ∧ (k = 1 → r = [] ∧ 0 ≤ n) ∧ (k = 2 → r = [] ∧ Iq nm = true) ∧ (k = 13 ∨ k = 21 ∨ k = 26 → A9 r = true) ∧ (k = 14 → A7 r = true) ∧ (k ≠ 13 ∧ k ≠ 21 ∧ k ≠ 26 ∧ k ≠ 14 → r = [])
mutual
def Em : T → Prop
 | .mk k n nm r ks ss => Rb k n nm r ∧ Cx k = (ks.length : Int) ∧ (Ct k = 0 → ss = []) ∧ Qb ks ∧ Y7 k ss
def Qb : List T → Prop
 | [] => True
 | t :: ts => Em t ∧ Qb ts
def Y7 (k : Int) : List Br → Prop
 | [] => True
 | .mk f ks :: bs => (ks.length : Int) = Ct k ∧ A7 f = true ∧ Qb ks ∧ Y7 k bs
end
theorem H4 {k : Int} (h : k = 1 ∨ k = 2 ∨ k = 13 ∨ k = 21 ∨ k = 26 ∨ k = 14) : Ct k = 0 := by
 unfold Ct
 rcases h with h | h | h | h | h | h <;> subst h <;> decide
theorem Wc (l : List Cl) {d : Int} (h : 24 ≤ d) : within l d = true := by unfold within; rw [decide_eq_true h]; rfl
theorem len_nil {α : Type} {l : List α} : ((l.length : Int) = 0) ↔ l = [] := by
 constructor
 ·intro h; exact List.eq_nil_of_length_eq_zero A2
 ·rintro rfl; rfl
theorem Ot {k n : Int} {nm : ByteArray} {r : List Cl} {ks : List T} {ss : List Br} {d : Int} (hd : 24 ≤ d) : Ky (.mk k n nm r ks ss) (-1) d = true ↔ Rb k n nm r ∧ Cx k = (ks.length : Int) ∧ (Ct k = 0 → ss = []) ∧ ∀ b, b ∈ ss → (b.kids.length : Int) = Ct k ∧ A7 b.B9 = true := by
 have hB : ∀ b : Br, Ll (.mk k n nm r ks ss) d b = (decide ((b.kids.length : Int) = Ct k) && A7 b.B9) := fun b => by
  unfold Ll; rw [Wc _ hd, Bool.and_true]; rfl
 have hL : (0 : Int) < (ss.length : Int) ↔ ss ≠ [] := by
  constructor
  ·intro h e; subst e; simp at h
  ·intro h; have := List.length_pos_iff.mpr h; omega
 have hs : ∀ p : Bool, (ss.all (Ll (.mk k n nm r ks ss) d) = true) ↔ ∀ b, b ∈ ss → (b.kids.length : Int) = Ct k ∧ A7 b.B9 = true := fun _ => by
  rw [List.all_eq_true]
  exact forall_congr' fun b => forall_congr' fun _ => by rw [hB]; simp
 unfold Ky Ii Rb
 simp only [T.kind, T.n, T.name, T.r, T.kids, T.sys, Wc _ hd, Bool.and_true, Bool.and_eq_true, Bool.not_eq_true', Bool.or_eq_false_iff, Bool.and_eq_false_iff, decide_eq_false_iff_not, Decidable.not_not, ne_eq, Int.not_lt, Bool.not_eq_false', beq_iff_eq]
 constructor
 ·rintro ⟨⟨⟨⟨h1, h2⟩, h3⟩, h4⟩, h5⟩
  replace h1 : Cx k = (ks.length : Int) := Decidable.not_not.mp (of_decide_eq_false h1)
  replace h2 : k = 1 ∨ n = 0 := h2.imp (fun h => Decidable.not_not.mp (of_decide_eq_false h)) (fun h => Decidable.not_not.mp (of_decide_eq_false h))
  replace h3 : k = 2 ∨ nm.toList = (ByteArray.mk #[]).toList := h3.imp (fun h => Decidable.not_not.mp (of_decide_eq_false h)) id
  replace h4 : ¬ Ct k = 0 ∨ ¬ (0 : Int) < (ss.length : Int) := h4.imp (fun h => of_decide_eq_false h) (fun h => of_decide_eq_false h)
  have hss : Ct k = 0 → ss = [] := by
   intro h
   rcases h4 with h4 | h4
   ·exact absurd h h4
   ·exact List.eq_nil_of_length_eq_zero A2
  split at h5
  ·rename_i hk
   have he := hss (H4 A2)
   subst he
   simp only [Bool.and_eq_true, decide_eq_true_eq] at h5
   exact ⟨⟨by omega, fun _ => h3.resolve_left A2, fun _ => ⟨len_nil.mp (of_decide_eq_true h5.1.1), of_decide_eq_true h5.1.2⟩, by omega, by omega, by omega, fun _ => len_nil.mp (of_decide_eq_true h5.1.1)⟩, h1, hss, fun b hb => by cases hb⟩
  ·split at h5
   ·rename_i hk1 hk
    have he := hss (H4 A2)
    subst he
    simp only [Bool.and_eq_true, decide_eq_true_eq] at h5
    exact ⟨⟨by omega, fun h => absurd hk h, by omega, fun _ => ⟨len_nil.mp (of_decide_eq_true h5.1), h5.2⟩, by omega, by omega, fun _ => len_nil.mp (of_decide_eq_true h5.1)⟩, h1, hss, fun b hb => by cases hb⟩
   ·split at h5
    ·rename_i hk1 hk2 hk
     have he := hss (H4 A2)
     subst he
     exact ⟨⟨by omega, fun _ => h3.resolve_left A2, by omega, by omega, fun _ => h5, by omega, by omega⟩, h1, hss, fun b hb => by cases hb⟩
    ·split at h5
     ·rename_i hk1 hk2 hk3 hk
      have he := hss (H4 A2)
      subst he
      exact ⟨⟨by omega, fun _ => h3.resolve_left A2, by omega, by omega, by omega, fun _ => h5, by omega⟩, h1, hss, fun b hb => by cases hb⟩
     ·rename_i hk1 hk2 hk3 hk4
      simp only [Bool.and_eq_true, decide_eq_true_eq] at h5
      exact ⟨⟨by omega, fun _ => h3.resolve_left A2, by omega, by omega, by omega, by omega, fun _ => len_nil.mp (of_decide_eq_true h5.2)⟩, h1, hss, (hs true).mp h5.1⟩
 ·rintro ⟨⟨a1, a2, a3, a4, a5, a6, a7⟩, b1, b2, b3⟩
  refine ⟨⟨⟨⟨decide_eq_false (Decidable.not_not.mpr b1), ?_⟩, ?_⟩, ?_⟩, ?_⟩
  ·by_cases h : k = 1
   ·exact .inl (decide_eq_false (Decidable.not_not.mpr h))
   ·exact .inr (decide_eq_false (Decidable.not_not.mpr (a1 h)))
  ·by_cases h : k = 2
   ·exact .inl (decide_eq_false (Decidable.not_not.mpr h))
   ·exact .inr (a2 h)
  ·by_cases h : Ct k = 0
   ·exact .inr (decide_eq_false (by rw [b2 h]; decide))
   ·exact .inl (decide_eq_false h)
  ·split
   ·rename_i h; simp [(a3 h).1, (a3 h).2]
   ·split
    ·rename_i h; simp [(a4 h).1, (a4 h).2]
    ·split
     ·rename_i h; exact a5 h
     ·split
      ·rename_i h; exact a6 h
      ·rename_i h1 h2 h3 h4
       rw [Bool.and_eq_true, (hs true)]
       exact ⟨b3, by simp [a7 A2]⟩
theorem S8 : ∀ {ts : List T}, Qb ts ↔ ∀ t, t ∈ ts → Em t
 | [] => by simp [Qb]
 | t :: ts => by simp [Qb, S8 (ts := ts)]
theorem X8 {k : Int} : ∀ {bs : List Br}, Y7 k bs ↔ ∀ b, b ∈ bs → (b.kids.length : Int) = Ct k ∧ A7 b.B9 = true ∧ Qb b.kids
 | [] => by simp [Y7]
 | .mk f ks :: bs => by
  simp only [Y7, X8 (bs := bs), List.forall_mem_cons, Br.kids, Br.B9]
  constructor
  ·rintro ⟨h1, h2, h3, h4⟩; exact ⟨⟨h1, h2, h3⟩, h4⟩
  ·rintro ⟨⟨h1, h2, h3⟩, h4⟩; exact ⟨h1, h2, h3, h4⟩
theorem L2 {t : T} : Em t ↔ Rb t.kind t.n t.name t.r ∧ Cx t.kind = (t.kids.length : Int) ∧ (Ct t.kind = 0 → t.sys = []) ∧ Qb t.kids ∧ Y7 t.kind t.sys := by
 obtain ⟨k, n, nm, r, ks, ss⟩ := t
 simp only [Em, T.kind, T.n, T.name, T.r, T.kids, T.sys]
theorem Tv {t : T} : Em t ↔ (∀ d : Int, 24 ≤ d → Ky t (-1) d = true) ∧ ∀ p, p ∈ parts t → Em p.1 := by
 rw [L2, S8, X8]
 have ho : ∀ d : Int, 24 ≤ d → (Ky t (-1) d = true ↔ Rb t.kind t.n t.name t.r ∧ Cx t.kind = (t.kids.length : Int) ∧ (Ct t.kind = 0 → t.sys = []) ∧ ∀ b, b ∈ t.sys → (b.kids.length : Int) = Ct t.kind ∧ A7 b.B9 = true) := by
  intro d hd
  obtain ⟨k, n, nm, r, ks, ss⟩ := t
  exact Ot hd
 constructor
 ·rintro ⟨h1, h2, h3, h4, h5⟩
  refine ⟨fun d hd => (ho d hd).mpr ⟨h1, h2, h3, fun b hb => ⟨(h5 b hb).1, (h5 b hb).2.1⟩⟩, fun p hp => ?_⟩
  rcases Tp hp with ⟨i, hi, rfl⟩ | ⟨s, k, hs, hk, rfl⟩
  ·exact h4 _ (Aa hi)
  ·exact S8.mp (h5 _ (Aa hs)).2.2 _ (Aa hk)
 ·rintro ⟨h1, h2⟩
  obtain ⟨a1, a2, a3, a4⟩ := (ho 24 A2).mp (h1 24 A2)
  refine ⟨a1, a2, a3, fun k hk => ?_, fun b hb => ⟨(a4 b hb).1, (a4 b hb).2, S8.mpr fun k hk => ?_⟩⟩
  ·obtain ⟨p, hp, e⟩ := Hn hk; exact e ▸ h2 p hp
  ·obtain ⟨p, hp, e⟩ := Hk hb hk; exact e ▸ h2 p hp
theorem D1b : ∀ (t : T) (d : Int), 24 ≤ d → (Hd t (-1) d false = true ↔ Em t) := T.ind fun t ih d hd => by
 rw [A8w, Tv]
 have hw : ∀ p : Part, IntKind.i64.wrap (-1 + if (-1 : Int) < 0 then 0 else p.2.1) = -1 := fun p => by rw [if_pos Jv]; decide
 constructor
 ·rintro ⟨_, h2, h3⟩
  refine ⟨fun d' hd' => ?_, fun p hp => ?_⟩
  ·obtain ⟨k, n, nm, r, ks, ss⟩ := t
   exact (Ot hd').mpr ((Ot hd).mp h2)
  ·have h4 := h3 p hp
   rw [hw] at h4
   have h5 := Zu hp
   exact (ih p hp (d + p.2.2) A2).mp h4
 ·rintro ⟨h1, h2⟩
  refine ⟨by simp, h1 d hd, fun p hp => ?_⟩
  rw [hw]
  have h5 := Zu hp
  exact (ih p hp (d + p.2.2) A2).mpr (h2 p hp)
theorem Nn {t : T} : An t = 0 ↔ sized t = 0 ∧ Em t := by rw [B2j, D1b t 24 A2]
section
variable {C : Type} {A : Tr C}
end
section
variable {CA CB CC : Type} {A : Tr CA} {B : Tr CB} {D : Tr CC} (R : CA → CB → CC → Prop)
structure D1e : Prop where
 inl : ∀ ca cb cc k n nm r u, R ca cb cc → Rb k n nm r → A.own ca k n nm r = .ok (.inl u) → D.own cc k n nm r = (C7 B u cb).bind fun w => .ok (.inl w)
 inr : ∀ ca cb cc k n nm r p, R ca cb cc → Rb k n nm r → A.own ca k n nm r = .ok (.inr p) → B.own cb k p.1 nm p.2 = D.own cc k n nm r
 none : ∀ ca cb cc f, R ca cb cc → A7 f = true → A.B9 ca f = .ok none → D.B9 cc f = .ok none
 some : ∀ ca cb cc f f', R ca cb cc → A7 f = true → A.B9 ca f = .ok (some f') → B.B9 cb f' = D.B9 cc f
 Li : ∀ ca cb cc b ca', 0 ≤ b.1 → 0 ≤ b.2 → R ca cb cc → A.Li ca b = .ok ca' → (∃ cb' cc', B.Li cb b = .ok cb' ∧ D.Li cc b = .ok cc' ∧ R ca' cb' cc') ∨ ∃ e, B.Li cb b = .bad e ∧ D.Li cc b = .bad e
variable {R}
mutual
theorem E1p (F : D1e (A := A) (B := B) (D := D) R) : ∀ {t u : T} {ca : CA} {cb : CB} {cc : CC}, Em t → R ca cb cc → C7 A t ca = .ok u → C7 B u cb = C7 D t cc
 | .mk k n nm r ks ss, u, ca, cb, cc, h, hr, hu => by
  simp only [Em] at h
  obtain ⟨h1, h2, h3, h4, h5⟩ := h
  rw [Ft] at hu
  simp only [T.kind, T.n, T.name, T.r, T.kids, T.sys] at hu
  obtain ⟨o, h9, hu⟩ := Ax.Ac hu
  cases o with
  | inl v =>
   injection hu with hu
   subst hu
   conv => rhs; rw [Ft]
   simp only [T.kind, T.n, T.name, T.r, T.kids, T.sys]
   rw [F.inl _ _ _ _ _ _ _ _ hr h1 h9]
   cases C7 B v cb <;> rfl
  | inr p =>
   obtain ⟨ks', h10, hu⟩ := Ax.Ac hu
   obtain ⟨ss', h11, hu⟩ := Ax.Ac hu
   injection hu with hu
   subst hu
   rw [Ft, Ft]
   simp only [T.kind, T.n, T.name, T.r, T.kids, T.sys]
   rw [F.inr _ _ _ _ _ _ _ _ hr h1 h9, D6a F h4 hr h10, C9x F h5 hr h11]
theorem D6a (F : D1e (A := A) (B := B) (D := D) R) {kd : Int} : ∀ {ts us : List T} {i : Nat} {ca : CA} {cb : CB} {cc : CC}, Qb ts → R ca cb cc → Dt A kd i ts ca = .ok us → Dt B kd i us cb = Dt D kd i ts cc
 | [], us, i, ca, cb, cc, h, hr, hu => by rw [Ef] at hu; injection hu with hu; subst hu; rw [Ef, Ef]
 | t :: ts, us, i, ca, cb, cc, h, hr, hu => by
  simp only [Qb] at h
  rw [E7] at hu
  obtain ⟨c', h1, hu⟩ := Ax.Ac hu
  obtain ⟨t', h2, hu⟩ := Ax.Ac hu
  obtain ⟨ts', h3, hu⟩ := Ax.Ac hu
  injection hu with hu
  subst hu
  rw [E7, E7]
  rcases F.Li _ _ _ _ _ (My _ _).1 (My _ _).2.2.1 hr h1 with ⟨cb', cc', e1, e2, hr'⟩ | ⟨e, e1, e2⟩
  ·rw [e1, e2]
   simp only [Ax.bind]
   rw [E1p F h.1 hr' h2, D6a F h.2 hr h3]
  ·rw [e1, e2]; rfl
theorem D5z (F : D1e (A := A) (B := B) (D := D) R) {kd : Int} : ∀ {ts us : List T} {ca : CA} {cb : CB} {cc : CC}, Qb ts → R ca cb cc → D2 A kd ts ca = .ok us → D2 B kd us cb = D2 D kd ts cc
 | [], us, ca, cb, cc, h, hr, hu => by rw [Ee] at hu; injection hu with hu; subst hu; rw [Ee, Ee]
 | t :: ts, us, ca, cb, cc, h, hr, hu => by
  simp only [Qb] at h
  rw [E6] at hu
  obtain ⟨c', h1, hu⟩ := Ax.Ac hu
  obtain ⟨t', h2, hu⟩ := Ax.Ac hu
  obtain ⟨ts', h3, hu⟩ := Ax.Ac hu
  injection hu with hu
  subst hu
  rw [E6, E6]
  rcases F.Li _ _ _ _ _ (Int.le_refl 0) (Ry _).1 hr h1 with ⟨cb', cc', e1, e2, hr'⟩ | ⟨e, e1, e2⟩
  ·rw [e1, e2]
   simp only [Ax.bind]
   rw [E1p F h.1 hr' h2, D5z F h.2 hr h3]
  ·rw [e1, e2]; rfl
theorem C9x (F : D1e (A := A) (B := B) (D := D) R) {kd : Int} : ∀ {bs us : List Br} {ca : CA} {cb : CB} {cc : CC}, Y7 kd bs → R ca cb cc → Dc A kd bs ca = .ok us → Dc B kd us cb = Dc D kd bs cc
 | [], us, ca, cb, cc, h, hr, hu => by rw [Dy] at hu; injection hu with hu; subst hu; rw [Dy, Dy]
 | .mk f ks :: bs, us, ca, cb, cc, h, hr, hu => by
  simp only [Y7] at h
  obtain ⟨h1, h2, h3, h4⟩ := h
  rw [Dk] at hu
  simp only [Br.B9, Br.kids] at hu
  obtain ⟨o, h5, hu⟩ := Ax.Ac hu
  cases o with
  | none =>
   rw [C9x F h4 hr hu]
   conv => rhs; rw [Dk]
   simp only [Br.B9, Br.kids]
   rw [F.none _ _ _ _ hr h2 h5]
   rfl
  | some f' =>
   obtain ⟨ks', h6, hu⟩ := Ax.Ac hu
   obtain ⟨bs', h7, hu⟩ := Ax.Ac hu
   injection hu with hu
   subst hu
   rw [Dk, Dk]
   simp only [Br.B9, Br.kids]
   rw [F.some _ _ _ _ _ hr h2 h5, D5z F h3 hr h6, C9x F h4 hr h7]
end
end
section
variable {CA CC : Type} {A : Tr CA} {D : Tr CC} (R : CA → CC → Prop)
variable {R}
end
theorem Vf {s : Nat} {f b : Int} (h : (Am s f b).1 = 0) (i : Nat) : 0 ≤ f ∧ 0 ≤ b ∧ (Am s f b).2.testBit i = ((decide (i < min f.toNat 24) && (s &&& 16777215).testBit i) || (decide (min f.toNat 24 + b.toNat ≤ i) && (s &&& 16777215).testBit (i - b.toNat))) := by
 by_cases h0 : f < 0 ∨ b < 0
 ·rw [Am, if_pos h0] at h; cases h
 ·have hq : ∀ j, (s &&& 16777215).testBit j = true → j < 24 := fun j hj => by rw [F9, Bool.and_eq_true, decide_eq_true_eq] at hj; exact hj.1
  refine ⟨by omega, by omega, ?_⟩
  generalize hF : min f.toNat 24 = F at *
  by_cases h1 : Bi (s &&& 16777215) (2 ^ (min f.toNat 24) - 1) = 0
  ·rw [Am, if_neg h0, if_pos h1]
   show ((s &&& 16777215) &&& (2 ^ (min f.toNat 24) - 1)).testBit i = _
   rw [hF] at h1 ⊢
   rw [Nat.testBit_and, Ld]
   have h2 : (decide (F + b.toNat ≤ i) && (s &&& 16777215).testBit (i - b.toNat)) = false := by
    cases h3 : (s &&& 16777215).testBit (i - b.toNat) with
    | false => rw [Bool.and_false]
    | true =>
     rw [Bool.and_true]
     refine decide_eq_false (fun h4 => ?_)
     have h5 : (Bi (s &&& 16777215) (2 ^ F - 1)).testBit (i - b.toNat) = true := by
      rw [Fo, Ld, h3, decide_eq_true (by have := hq _ h3; omega), decide_eq_false A2]; rfl
     rw [h1, Nat.zero_testBit] at h5
     cases h5
   rw [h2, Bool.or_false, Bool.and_comm]
  ·by_cases h2 : 24 ≤ b ∨ 16777215 < Bi (s &&& 16777215) (2 ^ (min f.toNat 24) - 1) * 2 ^ b.toNat
   ·rw [Am, if_neg h0, if_neg h1, if_pos h2] at h; cases h
   ·rw [Am, if_neg h0, if_neg h1, if_neg h2]
    show (((s &&& 16777215) &&& (2 ^ (min f.toNat 24) - 1)) ||| (Bi (s &&& 16777215) (2 ^ (min f.toNat 24) - 1) * 2 ^ b.toNat)).testBit i = _
    rw [hF, Nat.testBit_or, Nat.testBit_and, Ld, Nat.testBit_mul_two_pow, Fo, Ld]
    cases h3 : (s &&& 16777215).testBit (i - b.toNat) with
    | false => simp [Bool.and_comm]
    | true =>
     have h4 := hq _ h3
     rw [decide_eq_true (show i - b.toNat < 32 by omega)]
     simp only [Bool.and_true, Bool.true_and]
     rw [Bool.and_comm]
     congr 1
     by_cases h5 : F + b.toNat ≤ i
     ·rw [decide_eq_true (show b.toNat ≤ i by omega), decide_eq_false (show ¬ i - b.toNat < F by omega), decide_eq_true h5]; rfl
     ·rw [decide_eq_false h5]
      by_cases h6 : b.toNat ≤ i
      ·rw [decide_eq_true h6, decide_eq_true (show i - b.toNat < F by omega)]; rfl
      ·rw [decide_eq_false h6]; rfl
theorem Kb (l : List Cl) : ((B2 l).1 = 0 ∧ l.all B3 = true ∧ (B2 l).2 = E8 l ∧ (E8 l).length ≤ 64) ∨ (B2 l).1 = 2 ∨ (B2 l).1 = 3 := by
 unfold B2
 split
 ·exact .inr (.inl rfl)
 ·rename_i h1
  split
  ·exact .inr (.inr rfl)
  ·rename_i h2
   exact .inl ⟨rfl, by simpa using h1, rfl, by omega⟩
theorem X3 {l : List Cl} (h : (B2 l).1 = 0) : A9 (B2 l).2 = true := by
 rcases Kb l with ⟨_, h1, h2, h3⟩ | h1 | h1
 ·rw [h2]
  unfold A9
  rw [Bool.and_eq_true, Bool.and_eq_true, Bool.and_eq_true]
  refine ⟨⟨⟨List.all_eq_true.mpr fun c hc => List.all_eq_true.mp h1 c (Hc.mp hc).1, Na.mpr (J5 l)⟩, Xh.mpr fun a ha b hb => K8.mp (Hc.mp ha).2 b (Hc.mp hb).1⟩, decide_eq_true h3⟩
 ·rw [h1] at h; cases h
 ·rw [h1] at h; cases h
theorem A1c {l : List Cl} {f b : Int} (h : (Ab l f b).1 = 0) : A9 l = true ∧ (∀ c, c ∈ l → (B5 c f b).1 = 0) ∧ Ab l f b = B2 (l.map fun c => (B5 c f b).2) := by
 unfold Ab at h ⊢
 split at h
 ·cases h
 ·rename_i h1
  split at h
  ·rename_i h2; exact absurd h h2
  ·rename_i h2
   have h3 : (Fi (fun c => B5 c f b) l).1 = 0 := Decidable.not_not.mp h2
   rw [if_neg h1, if_neg h2]
   exact ⟨by simpa using h1, A5g.mp h3, by rw [C3t h3]⟩
theorem Ty : A9 [] = true := by decide
theorem Vs (f b : Int) : Ab [] f b = (0, []) := by
 unfold Ab
 rw [if_neg (by rw [Ty]; decide)]
 have h : Fi (fun c => B5 c f b) [] = (0, []) := rfl
 rw [h, if_neg Jv]
 exact A3c.mp Ty
theorem B0c (f b : Int) : C0 b [] f = .ok [] := by
 unfold C0
 rw [Vs]
 simp
section
variable {C : Type} {A : Tr C}
end
theorem Nk {vb db : Int} {c : Int × Int} {k n : Int} {nm : ByteArray} {r : List Cl} : (Bh vb db).own c k n nm r = (C0 db r c.2).bind fun r' => if k = 1 ∧ c.1 ≤ n ∧ 1000000000 - vb < n then .bad 100 else .ok (.inr (Gk vb c.1 k n, r')) := by
 simp only [Bh, Gk]
 congr 1
 funext g
 by_cases h1 : k = 1 ∧ c.1 ≤ n
 ·rw [if_pos h1, if_pos h1]
  by_cases h2 : 1000000000 - vb < n
  ·rw [if_pos h2, if_pos ⟨h1.1, h1.2, h2⟩]
  ·rw [if_neg h2, if_neg (fun h => h2 h.2.2)]
 ·rw [if_neg h1, if_neg h1, if_neg (fun h => h1 ⟨h.1, h.2.1⟩)]
theorem L5 {vb db : Int} {c : Int × Int} {f : List Cl} : (Bh vb db).B9 c f = (C0 db f c.2).bind fun f' => .ok (some f') := rfl
theorem A1v (c : Cl) (f b : Int) : (B5 c f b).1 = 0 ∨ (B5 c f b).1 = 2 ∨ (B5 c f b).1 = 10 := by
 have hm : ∀ s, (Am s f b).1 = 0 ∨ (Am s f b).1 = 2 ∨ (Am s f b).1 = 10 := fun s => by
  unfold Am
  split
  ·exact .inr (.inl rfl)
  ·split
   ·exact .inl rfl
   ·split
    ·exact .inr (.inr rfl)
    ·exact .inl rfl
 unfold B5
 split
 ·exact .inr (.inl rfl)
 ·split
  ·exact hm _
  ·split
   ·exact hm _
   ·exact .inl rfl
def I9 (r : Ax T) : Int × T := match r with
 | .ok u => (0, u)
 | .bad e => (e, t0)
theorem B2h {t : T} {ns : List Int} {r : Ax T} (h : An t = 0) (h2 : ns.all (fun n => decide (0 ≤ n)) = true) : Bt t ns r = I9 r := by
 cases r with
 | ok u => exact B2g h h2 rfl
 | bad e => exact A5c h h2 rfl
theorem C2s {b : Int} (h0 : 0 ≤ b) (h1 : b ≤ 1000000) : 0 ≤ Da b := by rw [B9n (by unfold As; omega) h0]; omega
def B9z (v d : Int) (k n : Int) (r : List Cl) : Prop := d ≤ 24 ∧ (k = 1 → n < v) ∧ within r d = true
mutual
def Ka : T → Int → Int → Prop
 | .mk k n nm r ks ss, v, d => B9z v d k n r ∧ C2u k 0 ks v d ∧ C2v k ss v d
def C2u (k : Int) : Nat → List T → Int → Int → Prop
 | _, [], _, _ => True
 | i, t :: ts, v, d => Ka t (v + (binds k i).1) (d + (binds k i).2) ∧ C2u k (i + 1) ts v d
def C2t (k : Int) : List T → Int → Int → Prop
 | [], _, _ => True
 | t :: ts, v, d => Ka t v (d + more k) ∧ C2t k ts v d
def C2v (k : Int) : List Br → Int → Int → Prop
 | [], _, _ => True
 | .mk f ks :: bs, v, d => within f d = true ∧ C2t k ks v d ∧ C2v k bs v d
end
theorem Ta (d : Int) : within [] d = true := by
 unfold within
 rw [show C2 [] = 0 from rfl, Nat.zero_div]
 simp
theorem R4 {t : T} {d : Int} {b : Br} : Ll t d b = true ↔ ((b.kids.length : Int) = Ct t.kind ∧ A7 b.B9 = true) ∧ within b.B9 d = true := by
 unfold Ll
 rw [Bool.and_eq_true, Bool.and_eq_true, decide_eq_true_iff]
theorem C7l {t : T} {v d : Int} (hv : 0 ≤ v) : Ky t v d = true ↔ Ky t (-1) 24 = true ∧ (t.kind = 1 → t.n < v) ∧ within t.r d = true ∧ ∀ b, b ∈ t.sys → within b.B9 d = true := by
 rw [V4, V4]
 have hsys : ∀ (h : Ii t = false), Ct t.kind = 0 → t.sys = [] := fun h h0 => by
  unfold Ii at h
  rw [Bool.or_eq_false_iff, Bool.and_eq_false_iff] at h
  rcases h.2 with h2 | h2
  ·exact absurd h0 (of_decide_eq_false h2)
  ·exact List.eq_nil_of_length_eq_zero (by have := of_decide_eq_false h2; omega)
 have hw24 : ∀ l : List Cl, within l 24 = true := fun l => Wc l A2
 constructor
 ·rintro ⟨h1, h2⟩
  refine (fun (h : (if t.kind = 1 then t.r.length = 0 ∧ 0 ≤ t.n ∧ ((-1 : Int) < 0 ∨ t.n < -1) else if t.kind = 2 then t.r.length = 0 ∧ Iq t.name = true else if t.kind = 13 ∨ t.kind = 21 ∨ t.kind = 26 then A9 t.r = true ∧ within t.r 24 = true else if t.kind = 14 then A7 t.r = true ∧ within t.r 24 = true else (∀ x, x ∈ t.sys → Ll t 24 x = true) ∧ t.r.length = 0) ∧ (t.kind = 1 → t.n < v) ∧ within t.r d = true ∧ ∀ b, b ∈ t.sys → within b.B9 d = true) => ⟨⟨h1, h.1⟩, h.2⟩) ?_
  split at h2
  ·rename_i hk
   have hs := hsys h1 (H4 A2)
   rw [hs, List.eq_nil_of_length_eq_zero h2.1]
   exact ⟨by rw [if_pos hk]; exact ⟨rfl, h2.2.1, .inl Jv⟩, fun _ => by omega, Ta d, fun b hb => (by cases hb)⟩
  ·rename_i hk1
   rw [if_neg hk1]
   split at h2
   ·rename_i hk
    have hs := hsys h1 (H4 A2)
    rw [hs, List.eq_nil_of_length_eq_zero h2.1]
    exact ⟨by rw [if_pos hk]; exact ⟨rfl, h2.2⟩, fun h => absurd h hk1, Ta d, fun b hb => (by cases hb)⟩
   ·rename_i hk2
    rw [if_neg hk2]
    split at h2
    ·rename_i hk
     have hs := hsys h1 (H4 A2)
     rw [hs]
     exact ⟨by rw [if_pos hk]; exact ⟨h2.1, hw24 _⟩, fun h => absurd h hk1, h2.2, fun b hb => (by cases hb)⟩
    ·rename_i hk3
     rw [if_neg hk3]
     split at h2
     ·rename_i hk
      have hs := hsys h1 (H4 A2)
      rw [hs]
      exact ⟨by rw [if_pos hk]; exact ⟨h2.1, hw24 _⟩, fun h => absurd h hk1, h2.2, fun b hb => (by cases hb)⟩
     ·rename_i hk4
      rw [if_neg hk4, List.eq_nil_of_length_eq_zero h2.2]
      exact ⟨⟨fun x hx => R4.mpr ⟨(R4.mp (h2.1 x hx)).1, hw24 _⟩, rfl⟩, fun h => absurd h hk1, Ta d, fun b hb => (R4.mp (h2.1 b hb)).2⟩
 ·rintro ⟨⟨h1, h2⟩, h3, h4, h5⟩
  refine ⟨h1, ?_⟩
  split at h2
  ·rename_i hk; rw [if_pos hk]; exact ⟨h2.1, h2.2.1, .inr (h3 hk)⟩
  ·rename_i hk1
   rw [if_neg hk1]
   split at h2
   ·rename_i hk; rw [if_pos hk]; exact h2
   ·rename_i hk2
    rw [if_neg hk2]
    split at h2
    ·rename_i hk; rw [if_pos hk]; exact ⟨h2.1, h4⟩
    ·rename_i hk3
     rw [if_neg hk3]
     split at h2
     ·rename_i hk; rw [if_pos hk]; exact ⟨h2.1, h4⟩
     ·rename_i hk4
      rw [if_neg hk4]
      exact ⟨fun x hx => R4.mpr ⟨(R4.mp (h2.1 x hx)).1, h5 x hx⟩, h2.2⟩
theorem B1g {k v d : Int} : ∀ {ts : List T} {i : Nat}, C2u k i ts v d ↔ ∀ j, j < ts.length → Ka (ts.getD j t0) (v + (binds k ((i + j : Nat) : Int)).1) (d + (binds k ((i + j : Nat) : Int)).2)
 | [], i => by simp [C2u]
 | t :: ts, i => by
  simp only [C2u, B1g (ts := ts) (i := i + 1)]
  constructor
  ·rintro ⟨h1, h2⟩ j hj
   cases j with
   | zero => simpa using h1
   | succ j => rw [List.getD_cons_succ, show i + (j + 1) = i + 1 + j by omega]; exact h2 j (by simpa using hj)
  ·intro h
   refine ⟨by simpa using h 0 D6, fun j hj => ?_⟩
   have := h (j + 1) (by simpa using hj)
   rw [List.getD_cons_succ, show i + (j + 1) = i + 1 + j by omega] at this
   exact this
theorem A0k {k v d : Int} : ∀ {ts : List T}, C2t k ts v d ↔ ∀ j, j < ts.length → Ka (ts.getD j t0) v (d + more k)
 | [] => by simp [C2t]
 | t :: ts => by
  simp only [C2t, A0k (ts := ts)]
  constructor
  ·rintro ⟨h1, h2⟩ j hj
   cases j with
   | zero => simpa using h1
   | succ j => rw [List.getD_cons_succ]; exact h2 j (by simpa using hj)
  ·intro h
   exact ⟨by simpa using h 0 D6, fun j hj => by have := h (j + 1) (by simpa using hj); rwa [List.getD_cons_succ] at this⟩
theorem B1h {k v d : Int} : ∀ {bs : List Br}, C2v k bs v d ↔ ∀ b, b ∈ bs → within b.B9 d = true ∧ C2t k b.kids v d
 | [] => by simp [C2v]
 | .mk f ks :: bs => by
  simp only [C2v, B1h (bs := bs), List.forall_mem_cons, Br.B9, Br.kids, and_assoc]
theorem Mr {t : T} {v d : Int} : Ka t v d ↔ B9z v d t.kind t.n t.r ∧ (∀ b, b ∈ t.sys → within b.B9 d = true) ∧ ∀ p, p ∈ parts t → Ka p.1 (v + p.2.1) (d + p.2.2) := by
 have h : Ka t v d ↔ B9z v d t.kind t.n t.r ∧ C2u t.kind 0 t.kids v d ∧ C2v t.kind t.sys v d := by
  obtain ⟨k, n, nm, r, ks, ss⟩ := t
  simp only [Ka, T.kind, T.n, T.r, T.kids, T.sys]
 rw [h, B1g, B1h]
 constructor
 ·rintro ⟨h1, h2, h3⟩
  refine ⟨h1, fun b hb => (h3 b hb).1, fun p hp => ?_⟩
  rcases Tp hp with ⟨i, hi, rfl⟩ | ⟨s, k, hs, hk, rfl⟩
  ·have := h2 i hi; rw [Nat.zero_add] at this; exact this
  ·have := A0k.mp (h3 _ (Aa (d := Bk) hs)).2 k hk; simpa using this
 ·rintro ⟨h1, h2, h3⟩
  refine ⟨h1, fun j hj => ?_, fun b hb => ⟨h2 b hb, A0k.mpr fun k hk => ?_⟩⟩
  ·have := h3 _ (List.mem_of_getElem? (Eg t j hj)); rw [Nat.zero_add]; exact this
  ·obtain ⟨s, hs, e⟩ := List.mem_iff_getElem.mp hb
   have e2 : t.sys.getD s Bk = b := by rw [D0 (d := Bk) hs]; exact e
   have := h3 _ (List.mem_of_getElem? (Es t s k hs (by rw [e2]; exact hk)))
   rw [e2] at this
   simpa using this
theorem B1e : ∀ (t : T) (v d : Int), 0 ≤ v → v + size t ≤ 9000000000000000000 → (Hd t v d true = true ↔ Em t ∧ Ka t v d) := T.ind fun t ih v d h0 hb => by
 rw [A8w, C7l h0, Mr, Tv]
 have hown : Ky t (-1) 24 = true ↔ ∀ d' : Int, 24 ≤ d' → Ky t (-1) d' = true := by
  constructor
  ·intro h d' hd'
   obtain ⟨k, n, nm, r, ks, ss⟩ := t
   exact (Ot hd').mpr ((Ot A2).mp h)
  ·intro h; exact h 24 A2
 have key : ∀ p, p ∈ parts t → (Hd p.1 (IntKind.i64.wrap (v + if v < 0 then 0 else p.2.1)) (d + p.2.2) true = true ↔ Em p.1 ∧ Ka p.1 (v + p.2.1) (d + p.2.2)) := fun p hp => by
  have h1 := Zu hp
  have h2 := Pf hp
  rw [if_neg A2, A6o (by unfold As; omega)]
  exact ih p hp _ _ A2 A2
 rw [hown]
 unfold B9z
 constructor
 ·rintro ⟨h1, ⟨h2, h3, h4, h5⟩, h6⟩
  exact ⟨⟨h2, fun p hp => ((key p hp).mp (h6 p hp)).1⟩, ⟨by simp at h1; omega, h3, h4⟩, h5, fun p hp => ((key p hp).mp (h6 p hp)).2⟩
 ·rintro ⟨⟨h2, h6⟩, ⟨h1, h3, h4⟩, h5, h7⟩
  exact ⟨by simp; omega, ⟨h2, h3, h4, h5⟩, fun p hp => (key p hp).mpr ⟨h6 p hp, h7 p hp⟩⟩
theorem A4g {t : T} {v d : Int} (hv : 0 ≤ v) (hb : v ≤ 1000000000000) : D4 t v d = 0 ↔ 0 ≤ d ∧ d ≤ 24 ∧ sized t = 0 ∧ Em t ∧ Ka t v d := by
 rw [B5c]
 constructor
 ·rintro ⟨_, h2, h3, h4, h5⟩
  have := (Tj.mp h4).2
  exact ⟨h2, h3, h4, (B1e t v d hv A2).mp h5⟩
 ·rintro ⟨h2, h3, h4, h5⟩
  have := (Tj.mp h4).2
  exact ⟨hv, h2, h3, h4, (B1e t v d hv A2).mpr h5⟩
section
variable {C : Type} {A : Tr C}
end
theorem Spec.E1j {P : Program} {k : FuncId} {args : Array Value} {pre : List Fact} {Ms0 : List Bm} {α X : Type} (r : α) {val : α → X → Value} {N : α → X → List Fact} {Ms1 : α → X → List Bm} (h : Spec P k args pre Ms0 (val r) (N r) (Ms1 r)) :
  Spec P k args pre Ms0 (fun x : {x : α × X // x.1 = r} => val x.1.1 x.1.2) (fun x => N x.1.1 x.1.2) (fun x => Ms1 x.1.1 x.1.2) := fun ok w hk hs => (h ok w hk hs).mono fun e w' hh => by
 obtain ⟨x, he, hs'⟩ := hh
 exact ⟨⟨(r, x), rfl⟩, he, hs'⟩
section
variable {C : Type} {A : Tr C}
theorem A9k {k : Int} {c : C} : ∀ {ts us : List T} {i : Nat}, Dt A k i ts c = .ok us → us.length = ts.length ∧ ∀ j, j < us.length → ∃ c', A.Li c (binds k ((i + j : Nat) : Int)) = .ok c' ∧ C7 A (ts.getD j t0) c' = .ok (us.getD j t0)
 | [], us, i, h => by rw [Ef] at h; injection h with h; subst h; exact ⟨rfl, fun j hj => absurd hj D6⟩
 | t :: ts, us, i, h => by
  rw [E7] at h
  obtain ⟨c', h1, h⟩ := Ax.Ac h
  obtain ⟨t', h2, h⟩ := Ax.Ac h
  obtain ⟨ts', h3, h⟩ := Ax.Ac h
  injection h with h
  subst h
  obtain ⟨h4, h5⟩ := A9k h3
  refine ⟨by simp [h4], fun j hj => ?_⟩
  cases j with
  | zero => exact ⟨c', by simpa using h1, by simpa using h2⟩
  | succ j =>
   obtain ⟨d, h6, h7⟩ := h5 j (by simpa using hj)
   exact ⟨d, by rw [show i + (j + 1) = i + 1 + j by omega]; exact h6, by rw [List.getD_cons_succ, List.getD_cons_succ]; exact h7⟩
theorem A9j {k : Int} {c : C} : ∀ {ts us : List T}, D2 A k ts c = .ok us → us.length = ts.length ∧ ∀ j, j < us.length → ∃ c', A.Li c (0, more k) = .ok c' ∧ C7 A (ts.getD j t0) c' = .ok (us.getD j t0)
 | [], us, h => by rw [Ee] at h; injection h with h; subst h; exact ⟨rfl, fun j hj => absurd hj D6⟩
 | t :: ts, us, h => by
  rw [E6] at h
  obtain ⟨c', h1, h⟩ := Ax.Ac h
  obtain ⟨t', h2, h⟩ := Ax.Ac h
  obtain ⟨ts', h3, h⟩ := Ax.Ac h
  injection h with h
  subst h
  obtain ⟨h4, h5⟩ := A9j h3
  refine ⟨by simp [h4], fun j hj => ?_⟩
  cases j with
  | zero => exact ⟨c', h1, by simpa using h2⟩
  | succ j =>
   obtain ⟨d, h6, h7⟩ := h5 j (by simpa using hj)
   exact ⟨d, h6, by rw [List.getD_cons_succ, List.getD_cons_succ]; exact h7⟩
theorem Zb {k : Int} {c : C} : ∀ {bs us : List Br}, Dc A k bs c = .ok us → us.length ≤ bs.length ∧ ∀ u, u ∈ us → ∃ b, b ∈ bs ∧ A.B9 c b.B9 = .ok (some u.B9) ∧ D2 A k b.kids c = .ok u.kids
 | [], us, h => by rw [Dy] at h; injection h with h; subst h; exact ⟨Nat.le_refl _, fun u hu => (by cases hu)⟩
 | b :: bs, us, h => by
  rw [Dk] at h
  obtain ⟨o, h1, h⟩ := Ax.Ac h
  cases o with
  | none =>
   obtain ⟨h4, h5⟩ := Zb h
   exact ⟨by simp only [List.length_cons]; omega, fun u hu => by obtain ⟨x, hx, h6⟩ := h5 u hu; exact ⟨x, List.mem_cons_of_mem _ hx, h6⟩⟩
  | some f' =>
   obtain ⟨ks', h2, h⟩ := Ax.Ac h
   obtain ⟨bs', h3, h⟩ := Ax.Ac h
   injection h with h
   subst h
   obtain ⟨h4, h5⟩ := Zb h3
   refine ⟨by simp only [List.length_cons]; omega, fun u hu => ?_⟩
   rcases List.mem_cons.mp hu with rfl | hu
   ·exact ⟨b, List.mem_cons_self, h1, h2⟩
   ·obtain ⟨x, hx, h6⟩ := h5 u hu; exact ⟨x, List.mem_cons_of_mem _ hx, h6⟩
theorem A0h {α : Type} {d x : α} {l : List α} (h : x ∈ l) : ∃ i, i < l.length ∧ l.getD i d = x := by
 obtain ⟨i, hi, e⟩ := List.mem_iff_getElem.mp h
 exact ⟨i, hi, by rw [D0 (d := d) hi]; exact e⟩
theorem C5e {t u : T} {c : C} (h : C7 A t c = .ok u) : A.own c t.kind t.n t.name t.r = .ok (.inl u) ∨ ∃ p, A.own c t.kind t.n t.name t.r = .ok (.inr p) ∧ (u.kind = t.kind ∧ u.n = p.1 ∧ u.name = t.name ∧ u.r = p.2) ∧
  (∀ q, q ∈ parts u → ∃ p, p ∈ parts t ∧ p.2 = q.2 ∧ ∃ c', A.Li c p.2 = .ok c' ∧ C7 A p.1 c' = .ok q.1) ∧ ∀ b', b' ∈ u.sys → ∃ b, b ∈ t.sys ∧ A.B9 c b.B9 = .ok (some b'.B9) := by
 rw [Ft] at h
 obtain ⟨o, h1, h⟩ := Ax.Ac h
 cases o with
 | inl v => injection h with h; subst h; exact .inl h1
 | inr p =>
  obtain ⟨ks', h2, h⟩ := Ax.Ac h
  obtain ⟨ss', h3, h⟩ := Ax.Ac h
  injection h with h
  subst h
  obtain ⟨l1, l2⟩ := A9k h2
  obtain ⟨b1, b2⟩ := Zb h3
  refine .inr ⟨p, h1, ⟨rfl, rfl, rfl, rfl⟩, fun q hq => ?_, fun b' hb' => ?_⟩
  ·rcases Tp hq with ⟨i, hi, rfl⟩ | ⟨s, j, hs, hj, rfl⟩
   ·simp only [T.kids, T.kind] at hi ⊢
    obtain ⟨c', h4, h5⟩ := l2 i hi
    exact ⟨_, List.mem_of_getElem? (Eg t i A2), rfl, c', by rw [Nat.zero_add] at h4; exact h4, h5⟩
   ·simp only [T.sys, T.kind] at hs hj ⊢
    obtain ⟨b, hb, _, h6⟩ := b2 _ (Aa (d := Bk) hs)
    obtain ⟨h7, h8⟩ := A9j h6
    obtain ⟨c', h9, h10⟩ := h8 j hj
    obtain ⟨s', hs', e⟩ := A0h (d := Bk) hb
    refine ⟨_, List.mem_of_getElem? (Es t s' j hs' (by rw [e]; omega)), rfl, c', h9, ?_⟩
    rw [e]; exact h10
  ·obtain ⟨b, hb, h6, _⟩ := b2 b' hb'
   exact ⟨b, hb, h6⟩
theorem B8 {α β : Type} {x : Ax α} {k : α → Ax β} {e : Int} (h : x.bind k = .bad e) : x = .bad e ∨ ∃ a, x = .ok a ∧ k a = .bad e := by
 cases x with
 | ok a => exact .inr ⟨a, rfl, h⟩
 | bad e' => injection h with h; subst h; exact .inl rfl
theorem A3r {k : Int} {c : C} {e : Int} : ∀ {ts : List T} {i : Nat}, Dt A k i ts c = .bad e → ∃ j, j < ts.length ∧ (A.Li c (binds k ((i + j : Nat) : Int)) = .bad e ∨ ∃ c', A.Li c (binds k ((i + j : Nat) : Int)) = .ok c' ∧ C7 A (ts.getD j t0) c' = .bad e)
 | [], i, h => by rw [Ef] at h; cases h
 | t :: ts, i, h => by
  rw [E7] at h
  rcases B8 h with h | ⟨c', h1, h⟩
  ·exact ⟨0, by simp, .inl (by simpa using h)⟩
  ·rcases B8 h with h | ⟨t', h2, h⟩
   ·exact ⟨0, by simp, .inr ⟨c', by simpa using h1, by simpa using h⟩⟩
   ·rcases B8 h with h | ⟨ts', h3, h⟩
    ·obtain ⟨j, hj, h4⟩ := A3r h
     refine ⟨j + 1, by simpa using hj, ?_⟩
     rw [List.getD_cons_succ, show i + (j + 1) = i + 1 + j by omega]; exact h4
    ·cases h
theorem A3p {k : Int} {c : C} {e : Int} : ∀ {ts : List T}, D2 A k ts c = .bad e → ∃ j, j < ts.length ∧ (A.Li c (0, more k) = .bad e ∨ ∃ c', A.Li c (0, more k) = .ok c' ∧ C7 A (ts.getD j t0) c' = .bad e)
 | [], h => by rw [Ee] at h; cases h
 | t :: ts, h => by
  rw [E6] at h
  rcases B8 h with h | ⟨c', h1, h⟩
  ·exact ⟨0, by simp, .inl h⟩
  ·rcases B8 h with h | ⟨t', h2, h⟩
   ·exact ⟨0, by simp, .inr ⟨c', h1, by simpa using h⟩⟩
   ·rcases B8 h with h | ⟨ts', h3, h⟩
    ·obtain ⟨j, hj, h4⟩ := A3p h
     exact ⟨j + 1, by simpa using hj, by rw [List.getD_cons_succ]; exact h4⟩
    ·cases h
theorem Wk {k : Int} {c : C} {e : Int} : ∀ {bs : List Br}, Dc A k bs c = .bad e → ∃ b, b ∈ bs ∧ (A.B9 c b.B9 = .bad e ∨ D2 A k b.kids c = .bad e)
 | [], h => by rw [Dy] at h; cases h
 | b :: bs, h => by
  rw [Dk] at h
  rcases B8 h with h | ⟨o, h1, h⟩
  ·exact ⟨b, List.mem_cons_self, .inl h⟩
  ·cases o with
   | none => obtain ⟨x, hx, h⟩ := Wk h; exact ⟨x, List.mem_cons_of_mem _ hx, h⟩
   | some f' =>
    rcases B8 h with h | ⟨ks, h2, h⟩
    ·exact ⟨b, List.mem_cons_self, .inr h⟩
    ·rcases B8 h with h | ⟨us, h3, h⟩
     ·obtain ⟨x, hx, h⟩ := Wk h; exact ⟨x, List.mem_cons_of_mem _ hx, h⟩
     ·cases h
theorem Qv {t : T} {c : C} {e : Int} (h : C7 A t c = .bad e) : A.own c t.kind t.n t.name t.r = .bad e ∨ (∃ b, b ∈ t.sys ∧ A.B9 c b.B9 = .bad e) ∨ ∃ p, p ∈ parts t ∧ (A.Li c p.2 = .bad e ∨ ∃ c', A.Li c p.2 = .ok c' ∧ C7 A p.1 c' = .bad e) := by
 rw [Ft] at h
 rcases B8 h with h | ⟨o, h1, h⟩
 ·exact .inl h
 ·cases o with
  | inl u => cases h
  | inr p =>
   rcases B8 h with h | ⟨ks, h2, h⟩
   ·obtain ⟨j, hj, h3⟩ := A3r h
    rw [Nat.zero_add] at h3
    exact .inr (.inr ⟨_, List.mem_of_getElem? (Eg t j hj), h3⟩)
   ·rcases B8 h with h | ⟨ss, h3, h⟩
    ·obtain ⟨b, hb, h4⟩ := Wk h
     rcases h4 with h4 | h4
     ·exact .inr (.inl ⟨b, hb, h4⟩)
     ·obtain ⟨j, hj, h5⟩ := A3p h4
      obtain ⟨s, hs, e2⟩ := A0h (d := Bk) hb
      refine .inr (.inr ⟨_, List.mem_of_getElem? (Es t s j hs (by rw [e2]; exact hj)), ?_⟩)
      rw [e2]; exact h5
    ·cases h
end
theorem A5k {l : List Cl} {i : Nat} : (C2 l).testBit i = true ↔ i < 24 ∧ ∃ c, c ∈ l ∧ (c.pos ||| c.neg).testBit i = true := by
 unfold C2
 rw [F9, Bool.and_eq_true, decide_eq_true_eq, B2m (fun c : Cl => c.pos ||| c.neg)]
 simp
theorem A3b {s : Nat} {f b : Int} (h : (Am s f b).1 = 0) (i : Nat) (hi : (Am s f b).2.testBit i = true) : ∃ j, j < 24 ∧ s.testBit j = true ∧ (((j : Int) < f ∧ i = j) ∨ (f ≤ (j : Int) ∨ 24 ≤ j) ∧ (i : Int) = j + b) := by
 obtain ⟨h0, h1, h2⟩ := Vf h i
 rw [h2, Bool.or_eq_true, Bool.and_eq_true, Bool.and_eq_true, decide_eq_true_eq, decide_eq_true_eq, F9, F9, Bool.and_eq_true, Bool.and_eq_true, decide_eq_true_eq, decide_eq_true_eq] at hi
 rcases hi with ⟨h3, h4, h5⟩ | ⟨h3, h4, h5⟩
 ·exact ⟨i, h4, h5, .inl ⟨by omega, rfl⟩⟩
 ·exact ⟨i - b.toNat, h4, h5, .inr ⟨by omega, by omega⟩⟩
theorem B2q {t : T} (h : Em t) : A9 t.r = true := by
 obtain ⟨_, _, _, _, h13, h14, h0⟩ := (L2.mp h).1
 by_cases h1 : t.kind = 13 ∨ t.kind = 21 ∨ t.kind = 26
 ·exact h13 h1
 ·by_cases h2 : t.kind = 14
  ·have := h14 h2
   unfold A7 at this
   rw [Bool.and_eq_true] at this
   exact this.1
  ·rw [h0 A2]; exact Ty
theorem X7 {t : T} (h : Em t) {b : Br} (hb : b ∈ t.sys) : A7 b.B9 = true := (X8.mp (L2.mp h).2.2.2.2 b hb).2.1
theorem G7 {t : T} (h : Em t) {p : Part} (hp : p ∈ parts t) : Em p.1 := (Tv.mp h).2 p hp
theorem B2s {l : List Cl} (h : A7 l = true) : A9 l = true := by
 unfold A7 at h
 rw [Bool.and_eq_true] at h
 exact h.1
def vE (n : Int) : T := .mk 1 n ⟨#[]⟩ [] [] []
theorem C4y {t : T} {f b : Int} (hb : As b) (h : Yo t) : Yo (Bd t f b).2 := by
 refine guard_okT' (fun ha u hu => ?_)
 simp only [List.all_cons, List.all_nil, Bool.and_true, Bool.and_eq_true, decide_eq_true_eq] at ha
 exact B1q ⟨ha.2.1, B9o hb ha.2.1 ha.2.2⟩ h hu
theorem D0o {t : T} {f b : Int} (h : Yo t) : Yo (Bc t f b).2 := guard_okT' (fun _ u hu => B1q A2 h hu)
def D2l (n : Int) (u : T) (c : Int × Int) (k m : Int) (r : List Cl) : Ax (T ⊕ (Int × List Cl)) :=
 if k = 1 then (if m = n + c.1 then (if (A8r u c.1 c.2).1 = 0 then .ok (.inl (A8r u c.1 c.2).2) else .bad (A8r u c.1 c.2).1) else .ok (.inr (if n + c.1 < m then m - 1 else m, r))) else .ok (.inr (m, r))
def D7u (n : Int) (u : T) : Tr (Int × Int) where
 own c k m _ r := D2l n u c k m r
 B9 _ f := .ok (some f)
 Li c b := .ok (c.1 + b.1, c.2 + b.2)
theorem A1g {t : T} (h : Em t) (hk : t.kind = 1) : t = .mk 1 t.n ⟨#[]⟩ [] [] [] ∧ 0 ≤ t.n := by
 obtain ⟨h1, h2, h3, h4, h5⟩ := L2.mp h
 obtain ⟨_, a2, a3, _⟩ := h1
 have hn : t.name = ⟨#[]⟩ := A1w.mp (beq_iff_eq.mpr (a2 (by rw [hk]; decide)))
 have hr := (a3 hk).1
 have hks : t.kids = [] := by
  rw [hk, show Cx 1 = 0 by decide] at h2
  exact List.eq_nil_of_length_eq_zero A2
 have hss := h3 (by rw [hk]; decide)
 refine ⟨?_, (a3 hk).2⟩
 obtain ⟨k, n, nm, r, ks, ss⟩ := t
 simp only [T.kind, T.n, T.name, T.r, T.kids, T.sys] at *
 subst hk hn hr hks hss
 rfl
mutual
def B7b : T → Int → Int
 | .mk k n nm r ks ss, m => if k = 1 ∧ n = m then 1 else D0r k 0 ks m + D0s ss m
def D0r (k : Int) : Nat → List T → Int → Int
 | _, [], _ => 0
 | i, t :: ts, m => B7b t (m + (binds k i).1) + D0r k (i + 1) ts m
def D0q : List T → Int → Int
 | [], _ => 0
 | t :: ts, m => B7b t m + D0q ts m
def D0s : List Br → Int → Int
 | [], _ => 0
 | .mk f ks :: bs, m => D0q ks m + D0s bs m
end
def Om : List T → Nat
 | [] => 0
 | t :: ts => size t + Om ts
def Xo : List Br → Nat
 | [] => 0
 | b :: bs => Om b.kids + Xo bs
theorem foldl_add {α : Type} (f : α → Nat) : ∀ (l : List α) (a : Nat), l.foldl (fun a p => a + f p) a = a + l.foldl (fun a p => a + f p) 0
 | [], a => rfl
 | x :: l, a => by rw [List.foldl_cons, List.foldl_cons, foldl_add f l (a + f x), foldl_add f l (0 + f x)]; omega
theorem Zg (t : T) : size t = 1 + Om t.kids + Xo t.sys := by
 have hk : ∀ (k : Int) (ts : List T) (i : Nat), (Ea k i ts).foldl (fun a p => a + size p.1) 0 = Om ts := by
  intro k ts
  induction ts with
  | nil => intro i; rfl
  | cons t ts ih => intro i; rw [Ea, List.foldl_cons, foldl_add, ih, Om]; simp only; omega
 have hm : ∀ (ts : List T) (b : Int × Int), (ts.map fun k => ((k, b.1, b.2) : Part)).foldl (fun a p => a + size p.1) 0 = Om ts := by
  intro ts b
  induction ts with
  | nil => rfl
  | cons t ts ih => rw [List.map_cons, List.foldl_cons, foldl_add, ih, Om]; simp only; omega
 have hs : ∀ (k : Int) (bs : List Br), (D9 k bs).foldl (fun a p => a + size p.1) 0 = Xo bs := by
  intro k bs
  induction bs with
  | nil => rfl
  | cons b bs ih => rw [D9, List.foldl_append, foldl_add, ih, hm b.kids (0, more k), Xo]
 rw [size_eq, parts, List.foldl_append, foldl_add, hs, foldl_add, hk]
abbrev lid (n : Int) : Int := if 1099511627776 < n then 1099511627776 else n
def D2k (t : T) (n : Int) (u : T) : Int × T :=
 if An t ≠ 0 then (An t, t0) else if An u ≠ 0 then (An u, t0) else if n < 0 then (2, t0) else
 if 20000 < (size t : Int) + B7b t (lid n) * ((size u : Int) - 1) then (221, t0) else
 match C7 (D7u (lid n) u) t (0, 0) with
 | .bad e => (e, t0)
 | .ok x => if 200 < depth x then (62, t0) else (0, x)
section
variable {t u : T} {n : Int}
end
theorem Po {s : Nat} {f b : Int} (h : (Am s f b).1 = 0) (i : Nat) : (Am s f b).2.testBit i = true ↔ ∃ j, j < 24 ∧ s.testBit j = true ∧ (((j : Int) < f ∧ i = j) ∨ (f ≤ (j : Int) ∧ (i : Int) = j + b)) := by
 obtain ⟨h0, h1, h2⟩ := Vf h i
 constructor
 ·intro hi
  obtain ⟨j, h3, h4, h5⟩ := A3b h i hi
  exact ⟨j, h3, h4, by omega⟩
 ·rintro ⟨j, h3, h4, h5⟩
  rw [h2, Bool.or_eq_true, Bool.and_eq_true, Bool.and_eq_true, decide_eq_true_eq, decide_eq_true_eq, F9, F9, Bool.and_eq_true, Bool.and_eq_true, decide_eq_true_eq, decide_eq_true_eq]
  rcases h5 with ⟨h5, rfl⟩ | ⟨h5, h6⟩
  ·exact .inl ⟨by omega, h3, h4⟩
  ·refine .inr ⟨by omega, ?_⟩
   rw [show i - b.toNat = j by omega]
   exact ⟨h3, h4⟩
theorem A4w {s : Nat} {f b : Int} (hs : s < 16777216) (h0 : 0 ≤ f) (hb : 0 ≤ b) (h : b = 0 ∨ 24 ≤ f) : Am s f b = (0, s) := by
 have hs24 : s &&& 16777215 = s := by rw [Yg]; exact Nat.mod_eq_of_lt hs
 have h1 : (Am s f b).1 = 0 := by
  unfold Am
  rw [if_neg A2]
  split
  ·rfl
  ·rename_i h2
   rw [if_neg]
   rintro (h3 | h3)
   ·rcases h with h | h
    ·omega
    ·refine h2 ?_
     refine Nat.eq_of_testBit_eq fun i => ?_
     rw [Fo, Ld, Nat.zero_testBit, F9, show min f.toNat 24 = 24 by omega]
     by_cases hi : i < 24 <;> simp [hi]
   ·rcases h with h | h
    ·subst h
     have := A6c (q := s &&& 16777215) (m := 2 ^ min f.toNat 24 - 1) (J4 s)
     simp at h3
     omega
    ·refine h2 ?_
     refine Nat.eq_of_testBit_eq fun i => ?_
     rw [Fo, Ld, Nat.zero_testBit, F9, show min f.toNat 24 = 24 by omega]
     by_cases hi : i < 24 <;> simp [hi]
 refine Prod.ext h1 ?_
 refine Nat.eq_of_testBit_eq fun i => ?_
 rw [Bool.eq_iff_iff, Po h1]
 have hlt : ∀ j, s.testBit j = true → j < 24 := fun j hj => by
  refine Nat.lt_of_not_le fun hge => ?_
  rw [Nat.testBit_lt_two_pow (Nat.lt_of_lt_of_le hs (Nat.pow_le_pow_right (n := 2) (i := 24) A2 hge))] at hj
  cases hj
 constructor
 ·rintro ⟨j, h2, h3, h4⟩
  rw [show i = j by omega]; exact h3
 ·intro h2
  exact ⟨i, hlt i h2, h2, by have := hlt i h2; omega⟩
theorem A8m {l : List Cl} (h : A9 l = true) : (∀ c, c ∈ l → B3 c = true) ∧ apart l = true := by
 unfold A9 at h
 simp only [Bool.and_eq_true, List.all_eq_true] at h
 exact ⟨h.1.1.1, h.1.2⟩
theorem Dn {c : Cl} : B3 c = true ↔ c.pos < 16777216 ∧ c.neg < 16777216 := by unfold B3; rw [Bool.and_eq_true, decide_eq_true_eq, decide_eq_true_eq]
section
variable {CA CB CC CD : Type} {A : Tr CA} {B : Tr CB} {C : Tr CC} {D : Tr CD} (R : CA → CB → CC → CD → Prop)
variable {R}
end
def A3d : Tr Unit where
 own _ _ n _ r := .ok (.inr (n, r))
 B9 _ f := .ok (some f)
 Li _ _ := .ok ()
mutual
theorem id_eq : ∀ t : T, C7 A3d t () = .ok t
 | .mk k n nm r ks ss => by rw [Ft]; simp only [T.kind, T.n, T.name, T.r, T.kids, T.sys, A3d, Ax.bind]; rw [show (Tr.mk _ _ _ : Tr Unit) = A3d from rfl, C9q ks, C9r ss]
theorem C9q {k : Int} : ∀ {i : Nat} (ts : List T), Dt A3d k i ts () = .ok ts
 | i, [] => Ef _ _ _
 | i, t :: ts => by rw [E7, show A3d.Li () (binds k i) = .ok () from rfl]; simp only [Ax.bind]; rw [id_eq t]; simp only; rw [C9q ts]
theorem C9p {k : Int} : ∀ ts : List T, D2 A3d k ts () = .ok ts
 | [] => Ee _ _
 | t :: ts => by rw [E6, show A3d.Li () (0, more k) = .ok () from rfl]; simp only [Ax.bind]; rw [id_eq t]; simp only; rw [C9p ts]
theorem C9r {k : Int} : ∀ bs : List Br, Dc A3d k bs () = .ok bs
 | [] => Dy _ _
 | .mk f ks :: bs => by rw [Dk, show A3d.B9 () (Br.B9 (.mk f ks)) = .ok (some f) from rfl]; simp only [Ax.bind]; rw [show (Br.mk f ks).kids = ks from rfl, C9p ks]; simp only; rw [C9r bs]
end
theorem Pd : ∀ {l m : List Int}, (l.Pairwise fun a b => a < b) → (m.Pairwise fun a b => a < b) → (∀ x, x ∈ l ↔ x ∈ m) → l = m
 | [], [], _, _, _ => rfl
 | [], b :: m, _, _, h => by have := (h b).mpr List.mem_cons_self; cases this
 | a :: l, [], _, _, h => by have := (h a).mp List.mem_cons_self; cases this
 | a :: l, b :: m, hl, hm, h => by
  obtain ⟨l1, l2⟩ := List.pairwise_cons.mp hl
  obtain ⟨m1, m2⟩ := List.pairwise_cons.mp hm
  have hab : a = b := by
   rcases List.mem_cons.mp ((h a).mp List.mem_cons_self) with h1 | h1
   ·exact h1
   ·rcases List.mem_cons.mp ((h b).mpr List.mem_cons_self) with h2 | h2
    ·exact h2.symm
    ·have := l1 b h2; have := m1 a h1; omega
  subst hab
  have : l = m := Pd l2 m2 fun x => by
   constructor
   ·intro hx
    rcases List.mem_cons.mp ((h x).mp (List.mem_cons_of_mem _ hx)) with h1 | h1
    ·subst h1; have := l1 x hx; omega
    ·exact h1
   ·intro hx
    rcases List.mem_cons.mp ((h x).mpr (List.mem_cons_of_mem _ hx)) with h1 | h1
    ·subst h1; have := m1 x hx; omega
    ·exact h1
  rw [this]
def shI (f b x : Int) : Int := if x < f then x else x + b
theorem C8s {s : Nat} {f b x : Int} (h0 : 0 ≤ f) (hb : 0 ≤ b) (hx : x ∈ A3 s) (hf : f ≤ x) (h : 24 ≤ x + b) : Am s f b = (10, 0) := by
 obtain ⟨x0, x1, x2⟩ := E9.mp hx
 have hbit : (Bi (s &&& 16777215) (2 ^ (min f.toNat 24) - 1)).testBit x.toNat = true := by
  rw [Fo, Ld, F9, x2, decide_eq_true A2, decide_eq_true A2, decide_eq_false A2]; rfl
 have hge := Nat.ge_two_pow_of_testBit hbit
 unfold Am
 rw [if_neg A2, if_neg (fun h1 => by rw [h1, Nat.zero_testBit] at hbit; cases hbit), if_pos]
 by_cases h24 : 24 ≤ b
 ·exact .inl h24
 ·right
  have h1 : 2 ^ x.toNat * 2 ^ b.toNat ≤ Bi (s &&& 16777215) (2 ^ (min f.toNat 24) - 1) * 2 ^ b.toNat := Nat.mul_le_mul_right _ hge
  rw [← Nat.pow_add] at h1
  have h2 : 2 ^ 24 ≤ 2 ^ (x.toNat + b.toNat) := Nat.pow_le_pow_right A2 A2
  have h3 : (2 : Nat) ^ 24 = 16777216 := by decide
  omega
theorem C2w {s : Nat} {f b : Int} (h0 : 0 ≤ f) (hb : 0 ≤ b) (h : ∀ x, x ∈ A3 s → x < f ∨ x + b < 24) : Am s f b = (0, Hb ((A3 s).map (shI f b))) := by
 have h1 : (Am s f b).1 = 0 := by
  unfold Am
  rw [if_neg A2]
  split
  ·rfl
  ·rename_i h2
   rw [if_neg]
   have hbits : ∀ i, (Bi (s &&& 16777215) (2 ^ (min f.toNat 24) - 1)).testBit i = true → (i : Int) + b < 24 := fun i hi => by
    rw [Fo, Ld, F9] at hi
    simp only [Bool.and_eq_true, decide_eq_true_eq, Bool.not_eq_true', decide_eq_false_iff_not] at hi
    have hm : (i : Int) ∈ A3 s := E9.mpr ⟨by omega, by omega, by simpa using hi.1.2.2⟩
    rcases h _ hm with h3 | h3 <;> omega
   obtain ⟨i, hi⟩ : ∃ i, (Bi (s &&& 16777215) (2 ^ (min f.toNat 24) - 1)).testBit i = true := by
    refine Classical.byContradiction fun hn => h2 (Nat.eq_of_testBit_eq fun i => ?_)
    rw [Nat.zero_testBit]
    cases hh : (Bi (s &&& 16777215) (2 ^ (min f.toNat 24) - 1)).testBit i with
    | false => rfl
    | true => exact absurd ⟨i, hh⟩ hn
   have hb24 := hbits i hi
   have hlt : Bi (s &&& 16777215) (2 ^ (min f.toNat 24) - 1) < 2 ^ (24 - b.toNat) := Nat.lt_pow_two_of_testBit _ fun j hj => by
    cases hh : (Bi (s &&& 16777215) (2 ^ (min f.toNat 24) - 1)).testBit j with
    | false => rfl
    | true => have := hbits j hh; omega
   rintro (h3 | h3)
   ·omega
   ·have h4 : Bi (s &&& 16777215) (2 ^ (min f.toNat 24) - 1) * 2 ^ b.toNat < 2 ^ (24 - b.toNat) * 2 ^ b.toNat := Nat.mul_lt_mul_of_pos_right hlt (Nat.pow_pos A2)
    rw [← Nat.pow_add, show 24 - b.toNat + b.toNat = 24 by omega] at h4
    have h5 : (2 : Nat) ^ 24 = 16777216 := by decide
    omega
 refine Prod.ext h1 ?_
 have hlt := I5 s f b
 have e1 : (Am s f b).2 = Hb (A3 (Am s f b).2) := by rw [Tk, Yg]; exact (Nat.mod_eq_of_lt hlt).symm
 rw [e1]
 show Hb _ = Hb _
 congr 1
 refine Pd (Nz _ _) ?_ fun x => ?_
 ·rw [List.pairwise_map]
  refine (Nz s 24).imp fun {a c} hac => ?_
  unfold shI
  split <;> split <;> omega
 ·rw [List.mem_map]
  constructor
  ·intro hx
   obtain ⟨x0, x1, x2⟩ := E9.mp hx
   obtain ⟨j, h2, h3, h4⟩ := (Po h1 x.toNat).mp x2
   refine ⟨(j : Int), E9.mpr ⟨by omega, by omega, by simpa using h3⟩, ?_⟩
   unfold shI
   split <;> omega
  ·rintro ⟨y, hy, rfl⟩
   obtain ⟨y0, y1, y2⟩ := E9.mp hy
   have hsh : 0 ≤ shI f b y ∧ shI f b y < 24 := by
    unfold shI
    rcases h y hy with h2 | h2 <;> split <;> omega
   refine E9.mpr ⟨hsh.1, hsh.2, (Po h1 _).mpr ⟨y.toNat, by omega, y2, ?_⟩⟩
   unfold shI at hsh ⊢
   split <;> omega
theorem Pq (s : Nat) : (A3 s).Pairwise fun a b => a < b := by
 unfold A3 Bx
 rw [List.pairwise_map]
 refine List.Pairwise.filter _ ?_
 exact List.pairwise_lt_range.imp fun h => by omega
theorem C3d (s : Nat) : A3 (s &&& 16777215) = A3 s := by
 refine Pd (Pq _) (Pq _) fun x => ?_
 rw [E9, E9, F9]
 constructor
 ·rintro ⟨h1, h2, h3⟩
  rw [Bool.and_eq_true] at h3
  exact ⟨h1, h2, h3.2⟩
 ·rintro ⟨h1, h2, h3⟩
  exact ⟨h1, h2, by rw [h3, decide_eq_true A2]; rfl⟩
theorem C2y {r : Nat} (h0 : ¬ r = 0) (h : r < 4294967296) : ∃ m, r = 2 ^ Lib.ctz 32 r * (2 * m + 1) ∧ Lib.ctz 32 r < 32 := by
 obtain ⟨m, h1, h2⟩ := Lib.ctzFrom_spec 32 r A2 h
 have e : Lib.ctz 32 r = Lib.ctzFrom 32 r := by unfold Lib.ctz; rw [if_neg h0]
 rw [e]
 exact ⟨m, h1, h2⟩
theorem D3l {r k m i : Nat} (h : r = 2 ^ k * (2 * m + 1)) : (r &&& (r - 1)).testBit i = (r.testBit i && decide (i ≠ k)) ∧ r.testBit k = true ∧ (i < k → r.testBit i = false) := by
 have hp : 0 < 2 ^ k := Nat.pow_pos Jv
 have e1 : r = 2 ^ (k + 1) * m + 2 ^ k := by rw [h, Nat.pow_succ, Nat.mul_add, Nat.mul_assoc]; simp
 have e2 : r - 1 = 2 ^ (k + 1) * m + (2 ^ k - 1) := by omega
 have hb1 : 2 ^ k < 2 ^ (k + 1) := by rw [Nat.pow_succ]; omega
 have hb2 : 2 ^ k - 1 < 2 ^ (k + 1) := by omega
 have t1 : ∀ j, r.testBit j = if j < k + 1 then (2 ^ k).testBit j else m.testBit (j - (k + 1)) := fun j => by rw [e1]; exact Nat.testBit_two_pow_mul_add m hb1 j
 have t2 : ∀ j, (r - 1).testBit j = if j < k + 1 then (2 ^ k - 1).testBit j else m.testBit (j - (k + 1)) := fun j => by rw [e2]; exact Nat.testBit_two_pow_mul_add m hb2 j
 refine ⟨?_, by rw [t1, if_pos A2, Nat.testBit_two_pow_self], fun hi => by rw [t1, if_pos A2, Nat.testBit_two_pow_of_ne A2]⟩
 rw [Nat.testBit_and, t1, t2]
 by_cases hi : i < k + 1
 ·rw [if_pos hi, if_pos hi, Nat.testBit_two_pow, Nat.testBit_two_pow_sub_one]
  by_cases hk : k = i
  ·subst hk; simp
  ·simp [hk]
 ·rw [if_neg hi, if_neg hi]
  have : i ≠ k := by omega
  simp [this]
theorem A4x {r : Nat} (h0 : ¬ r = 0) (h : r < 16777216) : Lib.ctz 32 r < 24 ∧ A3 r = (Lib.ctz 32 r : Int) :: A3 (r &&& (r - 1)) := by
 obtain ⟨m, h1, h2⟩ := C2y h0 A2
 have hb := fun i => D3l (i := i) h1
 have hk : Lib.ctz 32 r < 24 := Decidable.byContradiction fun hn => by
  have h3 := Nat.ge_two_pow_of_testBit (hb 0).2.1
  have h4 : 2 ^ 24 ≤ 2 ^ Lib.ctz 32 r := Nat.pow_le_pow_right Jv A2
  omega
 refine ⟨hk, Pd (Pq _) (List.pairwise_cons.mpr ⟨fun x hx => ?_, Pq _⟩) fun x => ?_⟩
 ·obtain ⟨x0, x1, x2⟩ := E9.mp hx
  rw [(hb x.toNat).1, Bool.and_eq_true, decide_eq_true_eq] at x2
  have : ¬ x.toNat < Lib.ctz 32 r := fun hlt => by have := (hb x.toNat).2.2 hlt; rw [x2.1] at this; cases this
  omega
 ·rw [List.mem_cons, E9, E9, (hb x.toNat).1, Bool.and_eq_true, decide_eq_true_eq]
  constructor
  ·rintro ⟨x0, x1, x2⟩
   by_cases hx : x = (Lib.ctz 32 r : Int)
   ·exact .inl hx
   ·exact .inr ⟨x0, x1, x2, by omega⟩
  ·rintro (rfl | ⟨x0, x1, x2, _⟩)
   ·exact ⟨by omega, by omega, by rw [Int.toNat_natCast]; exact (hb 0).2.1⟩
   ·exact ⟨x0, x1, x2⟩
theorem D8z {r : Nat} (h0 : ¬ r = 0) : r &&& (r - 1) < r := Nat.lt_of_le_of_lt Nat.and_le_right A2
def D7t : ByteArray := ⟨#[0, 1, 1, 2, 1, 2, 2, 3, 1, 2, 2, 3, 2, 3, 3, 4, 1, 2, 2, 3, 2, 3, 3, 4, 2, 3, 3, 4, 3, 4, 4, 5, 1, 2, 2, 3, 2, 3, 3, 4, 2, 3, 3, 4, 3, 4, 4, 5, 2, 3, 3, 4, 3, 4, 4, 5, 3, 4, 4, 5, 4, 5, 5, 6, 1, 2, 2, 3, 2, 3, 3, 4, 2, 3, 3, 4, 3, 4, 4, 5, 2, 3, 3, 4, 3, 4, 4, 5, 3, 4, 4, 5, 4, 5, 5, 6, 2, 3, 3, 4, 3, 4, 4, 5, 3, 4, 4, 5, 4, 5, 5, 6, 3, 4, 4, 5, 4, 5, 5, 6, 4, 5, 5, 6, 5, 6, 6, 7, 1, 2, 2, 3, 2, 3, 3, 4, 2, 3, 3, 4, 3, 4, 4, 5, 2, 3, 3, 4, 3, 4, 4, 5, 3, 4, 4, 5, 4, 5, 5, 6, 2, 3, 3, 4, 3, 4, 4, 5, 3, 4, 4, 5, 4, 5, 5, 6, 3, 4, 4, 5, 4, 5, 5, 6, 4, 5, 5, 6, 5, 6, 6, 7, 2, 3, 3, 4, 3, 4, 4, 5, 3, 4, 4, 5, 4, 5, 5, 6, 3, 4, 4, 5, 4, 5, 5, 6, 4, 5, 5, 6, 5, 6, 6, 7, 3, 4, 4, 5, 4, 5, 5, 6, 4, 5, 5, 6, 5, 6, 6, 7, 4, 5, 5, 6, 5, 6, 6, 7, 5, 6, 6, 7, 6, 7, 7, 8]⟩
def pop8 (j : Nat) : Nat := j % 2 + j / 2 % 2 + j / 4 % 2 + j / 8 % 2 + j / 16 % 2 + j / 32 % 2 + j / 64 % 2 + j / 128 % 2
theorem Zp : ∀ j, j < 256 → D7t[j]? = some (UInt8.ofNat (pop8 j)) ∧ pop8 j ≤ 8 := by decide +kernel
def V0 (s : Nat) : Nat := pop8 (s / 16777216) + pop8 (s / 65536 &&& 255) + pop8 (s / 256 &&& 255) + pop8 (s &&& 255)
theorem C1x : ∀ k, k < 24 → V0 (2 ^ k) = 1 := by decide +kernel
theorem B5f : V0 0 = 0 := by decide
theorem A8v (s : Nat) : s &&& 255 < 256 := Nat.lt_of_le_of_lt Nat.and_le_right Jv
section
variable {tn : Bool} {pn : Nat} {P : Program} [Tab P] {f : FuncId} {R : Ending → World → Prop} {B : Cs} {n : Fz} {K : List Item} {ops : Array Oper} {i : Nat} {l fin : List Nat} {σ : Nat → Value} {Γ : List Fact} {Ms Ms2 : List Bm}
variable {dst : Option Tmp} {op : Op} {ty : TypeId} {pos : String} {after : Array Edge} {v : Value} {x y z : Operand}
theorem B0n {t : TypeId} {s : ByteArray} {j : Nat} (hu : Tab.und P t = some .string) (hx : ev σ x = .string s) (hs : s = D7t) (hy : ev σ y = .int .u32 (j : Int)) (hj : j < 256) : Cg P σ (.index t x y) ty (.int .u8 (pop8 j : Nat)) := fun w => by
 subst hs
 have h := (Zp j hj)
 have e : ((UInt8.ofNat (pop8 j)).toNat : Int) = (pop8 j : Nat) := by
  rw [UInt8.toNat_ofNat']
  have := h.2
  omega
 simp [Cp, execOp, hx, hy, Instr.index, asIntOf, Dh hu, h.1]
 have := h.2
 omega
theorem C7g {t t' : TypeId} {a b : Nat} (hx : ev σ x = .int .u8 (a : Nat)) (hy : ev σ y = .int .u8 (b : Nat)) (h : a + b < 256) : Cg P σ (.binOp .add t x y t') ty (.int .u8 ((a + b : Nat) : Int)) :=
 De hx hy (fun w => C5 w) (fun w => by
  have e : IntKind.u8.wrap ((a : Int) + (b : Int)) = ((a + b : Nat) : Int) := by simp [IntKind.wrap, IntKind.signed, IntKind.bits]; omega
  show Result.ok (Value.int .u8 (IntKind.u8.wrap ((a : Int) + (b : Int)))) w = _
  rw [e])
theorem C2c {s d : TypeId} {ds : TypeDesc} {a : Nat} (hs : Tab.und P s = some ds) (hd : Tab.und P d = some (.int .i64)) (hx : ev σ x = .int .u8 (a : Nat)) (ha : a < 256) : Cg P σ (.convert s d x) ty (.int .i64 (a : Int)) := by
 have h := J8 hs hd hx (ty := ty)
 rwa [show IntKind.i64.wrap (a : Int) = (a : Int) by rw [IntKind.wrap_i64]; omega] at h
theorem Yr {t : TypeId} {s : ByteArray} {j : Nat} (k_ : NV tn pn P f R B n K ops fin l (Aq σ dst (.int .u8 (pop8 j : Nat))) Γ Ms) (hx : ev σ x = .string s := by exact A5) (hy : ev σ y = .int .u32 (j : Int) := by exact A5) (hs : s = D7t := by rfl) (hu : Tab.und P t = some .string := by rfl) (hj : j < 256 := by first | omega | exact A8v _) (hd : Ah n dst = true := by rfl) : Jr tn pn P f R B n K ops fin i l dst (.index t x y) ty σ Γ Ms := D3 (B0n hu hx hs hy hj) hd k_
theorem A6p {t t' : TypeId} {a b : Nat} (k_ : NV tn pn P f R B n K ops fin l (Aq σ dst (.int .u8 ((a + b : Nat) : Int))) Γ Ms) (hx : ev σ x = .int .u8 (a : Nat) := by exact A5) (hy : ev σ y = .int .u8 (b : Nat) := by exact A5) (h : a + b < 256 := by omega) (hd : Ah n dst = true := by rfl) : Jr tn pn P f R B n K ops fin i l dst (.binOp .add t x y t') ty σ Γ Ms := D3 (C7g hx hy h) hd k_
theorem C5b {s d : TypeId} {ds : TypeDesc} {a : Nat} (k_ : NV tn pn P f R B n K ops fin l (Aq σ dst (.int .i64 (a : Int))) Γ Ms) (hx : ev σ x = .int .u8 (a : Nat) := by exact A5) (hs : Tab.und P s = some ds := by rfl) (hd' : Tab.und P d = some (.int .i64) := by rfl) (ha : a < 256 := by omega) (hd : Ah n dst = true := by rfl) : Jr tn pn P f R B n K ops fin i l dst (.convert s d x) ty σ Γ Ms := D3 (C2c hs hd' hx ha) hd k_
end
theorem A0u {l : List Cl} (h : (B2 l).1 ≠ 0) : (B2 l).2 = [] := by
 unfold B2 at h ⊢
 split
 ·rfl
 ·rename_i h1
  rw [if_neg h1] at h
  split
  ·rfl
  ·rename_i h2
   rw [if_neg h2] at h
   exact absurd rfl h
theorem A3e {l : List Cl} {f b : Int} (hl : A9 l = true) (h0 : 0 ≤ f) (hb : 0 ≤ b) (h : b = 0 ∨ 24 ≤ f) : Ab l f b = (0, l) := by
 obtain ⟨hr, _⟩ := A8m hl
 have key : ∀ c, c ∈ l → B5 c f b = (0, c) := fun c hc => by
  obtain ⟨h2, h3⟩ := Dn.mp (hr c hc)
  unfold B5
  rw [if_neg (by rw [hr c hc]; simp), A4w h2 h0 hb h, A4w h3 h0 hb h]
  simp
 have hf : Fi (fun c => B5 c f b) l = (0, l) := by
  unfold Fi
  rw [List.find?_eq_none.mpr (fun c hc => by show ¬ decide ((B5 c f b).1 ≠ 0) = true; rw [key c hc]; simp)]
  simp only
  congr 1
  conv => rhs; rw [← List.map_id l]
  exact List.map_congr_left (fun c hc => by rw [key c hc]; rfl)
 unfold Ab
 rw [if_neg (by rw [hl]; simp), hf, if_neg D6]
 have := Ps l
 rw [hl, Bool.and_eq_true, decide_eq_true_eq, decide_eq_true_eq] at this
 exact Prod.ext this.1 this.2
theorem K6 {l : List Cl} {f b : Int} (hl : A9 l = true) (h0 : 0 ≤ f) (hb : 0 ≤ b) : C0 b l f = if (Ab l f b).1 = 0 then .ok (Ab l f b).2 else .bad (Ab l f b).1 := by
 unfold C0
 by_cases h : b = 0 ∨ 24 ≤ f
 ·rw [if_pos h, A3e hl h0 hb h]; rfl
 ·rw [if_neg h]
theorem Vq {l : List Cl} {f b : Int} : 0 ≤ (Ab l f b).1 := by
 have hl : ∀ m : List Cl, 0 ≤ (B2 m).1 := fun m => by rcases Kb m with h | h | h <;> omega
 unfold Ab
 split
 ·exact (show (0 : Int) ≤ 2 by omega)
 ·split
  ·unfold Fi
   split
   ·rename_i c _
    rcases A1v c f b with h | h | h <;> (simp only; omega)
   ·exact Int.le_refl 0
  ·exact hl _
theorem Vr {l : List Cl} {f b : Int} : (Ab l f b).1 ≤ 10 := by
 have hl : ∀ m : List Cl, (B2 m).1 ≤ 10 := fun m => by rcases Kb m with h | h | h <;> omega
 unfold Ab
 split
 ·exact (show (2 : Int) ≤ 10 by omega)
 ·split
  ·unfold Fi
   split
   ·rename_i c _
    rcases A1v c f b with h | h | h <;> (simp only; omega)
   ·exact (show (0 : Int) ≤ 10 by omega)
  ·exact hl _
def Qf (e : Int) : T := .mk (-e) 0 ⟨#[]⟩ [] [] []
def Fm (vb db : Int) (t : T) (v d : Int) : T := match C7 (Bh vb db) t (v, d) with
 | .ok u => u
 | .bad e => Qf e
theorem A0p {vb db : Int} {t u : T} {v d : Int} (h : C7 (Bh vb db) t (v, d) = .ok u) : Fm vb db t v d = u := by unfold Fm; rw [h]
theorem Jk {vb db : Int} {t : T} {v d e : Int} (h : C7 (Bh vb db) t (v, d) = .bad e) : Fm vb db t v d = Qf e := by unfold Fm; rw [h]
theorem Xs {l : List Cl} {f b e : Int} (h : C0 b l f = .bad e) : 0 < e := by
 unfold C0 at h
 split at h
 ·cases h
 ·split at h
  ·cases h
  ·rename_i h2
   injection h with h
   have := Vq (l := l) (f := f) (b := b)
   omega
theorem M0 {vb db : Int} : ∀ (t : T) {c : Int × Int} {e : Int}, C7 (Bh vb db) t c = .bad e → 0 < e := T.ind fun t ih c e h => by
 rcases Qv h with h1 | ⟨b, _, h1⟩ | ⟨p, hp, h1 | ⟨c', _, h2⟩⟩
 ·rw [Nk] at h1
  rcases B8 h1 with h2 | ⟨g, _, h2⟩
  ·exact Xs h2
  ·split at h2
   ·injection h2 with h2; omega
   ·cases h2
 ·rw [L5] at h1
  rcases B8 h1 with h2 | ⟨g, _, h2⟩
  ·exact Xs h2
  ·cases h2
 ·cases h1
 ·exact ih p hp h2
theorem X6 {t : T} (h : Em t) : 0 ≤ t.kind := by
 have h2 := (L2.mp h).2.1
 unfold Cx at h2
 repeat' split at h2
 all_goals omega
theorem X2 {vb db : Int} {t u : T} {c : Int × Int} (h : C7 (Bh vb db) t c = .ok u) : u.kind = t.kind := by
 rcases C5e h with h1 | ⟨p, _, h1, _⟩
 ·exact absurd h1 Vh
 ·exact h1.1
theorem Jl {vb db : Int} {t : T} {v d : Int} (hf : Em t) : (C7 (Bh vb db) t (v, d) = .ok (Fm vb db t v d) ∧ 0 ≤ (Fm vb db t v d).kind) ∨ ∃ e, 0 < e ∧ C7 (Bh vb db) t (v, d) = .bad e ∧ Fm vb db t v d = Qf e := by
 cases h : C7 (Bh vb db) t (v, d) with
 | ok u =>
  rw [A0p h]
  exact .inl ⟨rfl, by rw [X2 h]; exact X6 hf⟩
 | bad e => exact .inr ⟨e, M0 t h, rfl, Jk h⟩
theorem Oo {e : Int} (h : 0 < e) : (Qf e).kind < 0 := by show -e < 0; omega
theorem C9w {vb db : Int} : D1e (A := A3d) (B := Bh vb db) (D := Bh vb db) (fun (_ : Unit) (x y : Int × Int) => x.1 = y.1 ∧ 24 ≤ x.2 ∧ 24 ≤ y.2) where
 inl := fun ca cb cc k n nm r u _ _ h => (by injection h with h; cases h)
 inr := by
  rintro ca cb cc k n nm r p ⟨e1, e2, e3⟩ _ h
  injection h with h
  injection h with h
  subst h
  have h1 : ∀ l : List Cl, ∀ f : Int, 24 ≤ f → C0 db l f = .ok l := fun l f hf => by unfold C0; rw [if_pos (.inr hf)]
  rw [Nk, Nk, h1 _ _ e2, h1 _ _ e3, e1]
 none := fun ca cb cc f _ _ h => (by injection h with h; cases h)
 some := by
  rintro ca cb cc f f' ⟨e1, e2, e3⟩ _ h
  injection h with h
  injection h with h
  subst h
  have h1 : ∀ l : List Cl, ∀ f : Int, 24 ≤ f → C0 db l f = .ok l := fun l f hf => by unfold C0; rw [if_pos (.inr hf)]
  rw [L5, L5, h1 _ _ e2, h1 _ _ e3]
 Li := by
  rintro ca cb cc b' ca' hb1 hb2 ⟨e1, e2, e3⟩ h
  exact .inl ⟨_, _, rfl, rfl, by dsimp only; omega, by dsimp only; omega, by dsimp only; omega⟩
theorem C8y {vb db : Int} {t : T} {v d d' : Int} (hf : Em t) (h : 24 ≤ d) (h' : 24 ≤ d') : C7 (Bh vb db) t (v, d) = C7 (Bh vb db) t (v, d') :=
 E1p (C9w (vb := vb) (db := db)) hf (ca := ()) ⟨rfl, h, h'⟩ (id_eq t)
abbrev EL : Type := Int × List Cl
def Ed (i : Int) : Nat := if 0 ≤ i ∧ i < 24 then 2 ^ i.toNat else 0
def Im (s : Nat) (i : Int) : Nat := if 0 ≤ i ∧ i < 24 then (s &&& 16777215) ||| 2 ^ i.toNat else s &&& 16777215
def Dx (s : Nat) (i : Int) : Nat := if 0 ≤ i ∧ i < 24 then Bi (s &&& 16777215) (2 ^ i.toNat) else s &&& 16777215
theorem P8 (i : Int) : Im 0 i = Ed i := by unfold Im Ed; split <;> simp
theorem Kf (i : Int) : Ed i < 16777216 := by
 unfold Ed
 split
 ·exact Nat.pow_lt_pow_right (n := 24) (a := 2) Jv A2
 ·decide
theorem Z3 (s : Nat) (i : Int) : Im s i < 16777216 := by
 unfold Im
 split
 ·exact Nat.or_lt_two_pow (n := 24) (by have := J4 s; omega) (Nat.pow_lt_pow_right (n := 24) (a := 2) Jv A2)
 ·exact J4 s
theorem Xm (s : Nat) (i : Int) : Dx s i < 16777216 := by
 unfold Dx
 split
 ·rw [show (16777216 : Nat) = 2 ^ 24 from rfl]
  exact Nat.lt_pow_two_of_testBit _ fun j hj => by
   rw [Fo, F9, decide_eq_false (show ¬ j < 24 by omega)]; simp
 ·exact J4 s
def Sy (i : Int) : Bool := decide (0 ≤ i) && decide (i < 24)
theorem D2j {i : Int} (h : Sy i = true) : V0 (Ed i &&& 16777215) = 1 := by
 have h1 : 0 ≤ i ∧ i < 24 := by unfold Sy at h; simpa using h
 have h2 := Kf i
 rw [Yg, Nat.mod_eq_of_lt A2]
 unfold Ed
 rw [if_pos h1]
 exact C1x _ A2
theorem C6s {i : Int} (h : Sy i = false) : V0 (Ed i &&& 16777215) = 0 := by
 have h1 : ¬ (0 ≤ i ∧ i < 24) := by unfold Sy at h; simp at h; omega
 unfold Ed
 rw [if_neg h1]
 exact B5f
theorem B0h (i : Int) : decide (((V0 (Ed i &&& 16777215) : Nat) : Int) = 0) = !Sy i := by
 cases h : Sy i
 ·rw [C6s h]; rfl
 ·rw [D2j h]; rfl
def Hh (x : EL) (k : List Cl → EL) : EL := if x.1 ≠ 0 then (x.1, []) else k x.2
theorem Bp {x : EL} {k : List Cl → EL} (h : x.1 ≠ 0) : Hh x k = (x.1, []) := if_pos h
theorem C4 {x : EL} {k : List Cl → EL} (h : x.1 = 0) : Hh x k = k x.2 := if_neg (by simp [h])
def Cu (g : List Cl → Cl → EL) : List Cl → List Cl → EL
 | h, [] => (0, h)
 | h, c :: cs => Hh (g h c) fun h' => Cu g h' cs
theorem A1e {g : List Cl → Cl → EL} : ∀ {l m h h' : List Cl}, Cu g h l = (0, h') → Cu g h (l ++ m) = Cu g h' m
 | [], m, h, h', e => by
  rw [Cu, Prod.mk.injEq] at e
  rw [List.nil_append, e.2]
 | d :: l, m, h, h', e => by
  rw [Cu] at e
  by_cases h0 : (g h d).1 = 0
  ·rw [C4 h0] at e
   rw [List.cons_append, Cu, C4 h0]
   exact A1e e
  ·rw [Bp h0, Prod.mk.injEq] at e
   exact absurd e.1 h0
theorem Vu {g : List Cl → Cl → EL} {l h h' : List Cl} {i : Nat} (hi : i < l.length) (e : Cu g h (l.take i) = (0, h')) (h0 : (g h' (l.getD i B1)).1 = 0) : Cu g h (l.take (i + 1)) = (0, (g h' (l.getD i B1)).2) := by
 rw [Ag (d := B1) hi, A1e e, Cu, C4 h0, Cu]
theorem S6 {g : List Cl → Cl → EL} {l h h' : List Cl} {i : Nat} (hi : i < l.length) (e : Cu g h (l.take i) = (0, h')) (h0 : (g h' (l.getD i B1)).1 ≠ 0) : Cu g h l = ((g h' (l.getD i B1)).1, []) := by
 have e2 : l = l.take i ++ l.getD i B1 :: l.drop (i + 1) := by rw [D0 (d := B1) hi, List.getElem_cons_drop, List.take_append_drop]
 rw [e2, A1e e, ← e2, Cu, Bp h0]
theorem S7 {g : List Cl → Cl → EL} {l h h' : List Cl} {i : Nat} (hi : i = l.length) (e : Cu g h (l.take i) = (0, h')) : Cu g h l = (0, h') := by
 rw [hi, List.take_length] at e
 exact e
def Le (f g : List Cl) : EL := B2 (f ++ g)
def Io (f g : List Cl) : List Cl := f.flatMap fun a => g.map fun b => Du a b
def Lv (f g : List Cl) : EL := B2 (Io f g)
def A2w (c : Cl) : List Cl := ((A3 c.pos).map fun i => (⟨0, Ed i⟩ : Cl)) ++ ((A3 c.neg).map fun i => (⟨Ed i, 0⟩ : Cl))
def Pl (c : Cl) : EL := B2 (A2w c)
def D7 (h : List Cl) (c : Cl) : EL := Hh (Pl c) fun o => Lv h o
def Sd (f : List Cl) : EL := Cu D7 [B1] f
def Gv (f : List Cl) : EL := if A9 f then Sd f else (2, [])
def A9o (c : Cl) (i : Int) : Cl := ⟨Dx c.pos i, Dx c.neg i⟩
def D7q (i : Int) (r : List Cl) (c : Cl) : EL := if Fw c.pos i then Lv [A9o c i] r else (0, [A9o c i])
def D7r (i : Int) (r : List Cl) (c : Cl) (g : List Cl) : EL := if Fw c.neg i then Hh (Sd r) fun s => Lv g s else (0, g)
def D2i (i : Int) (r h : List Cl) (c : Cl) : EL := Hh (D7q i r c) fun g => Hh (D7r i r c g) fun g => Le h g
def D3z (f : List Cl) (i : Int) (r : List Cl) : EL := if (A9 f && A9 r) = false then (2, []) else if Sy i = false then (2, []) else Cu (D2i i r) [] f
def F8 (l : List Cl) : List Cl := l.filter fun c => !Lf c
def U6 (f : List Cl) : EL := if A9 f then B2 (F8 f) else (2, [])
def Fl (r : List Cl) : EL := Hh (Gv r) U6
def Qa (f g : List Cl) : EL := B2 (f.flatMap fun a => F8 (g.map fun b => Du a b))
def D0i (i : Int) (r : List Cl) (c : Cl) : EL := if Fw c.pos i then Hh (U6 r) fun x => Qa [A9o c i] x else if Fw c.neg i then Hh (Fl r) fun x => Qa [A9o c i] x else (0, [A9o c i])
def D0h (i : Int) (r h : List Cl) (c : Cl) : EL := Hh (D0i i r c) fun g => Le h g
def D4b (f : List Cl) (i : Int) (r : List Cl) : EL := if (A7 f && Sy i && A9 r) = false then (2, []) else Cu (D0h i r) [] f
def Jn (f g : List Cl) : EL := if (A7 f && A7 g) = false then (2, []) else Le f g
abbrev Ts (x : EL) : Prop := Ar x.2
theorem C1r {l m : List Cl} (h : Ar l) (hs : ∀ c, c ∈ m → c ∈ l) (hl : m.length ≤ l.length) : Ar m := ⟨fun c hc => h.1 c (hs c hc), by have := h.2; omega⟩
theorem Ov {l : List Cl} (h : ∀ c, c ∈ l → u32 c) : Ts (B2 l) := A5b h
theorem A0b {x : EL} {k : List Cl → EL} (h : x.1 = 0 → Ts (k x.2)) : Ts (Hh x k) := by
 by_cases h0 : x.1 = 0
 ·rw [C4 h0]; exact h h0
 ·rw [Bp h0]; exact Df
theorem B0v {g : List Cl → Cl → EL} : ∀ {l h : List Cl}, (∀ h c, c ∈ l → Ar h → Ts (g h c)) → Ar h → Ts (Cu g h l)
 | [], h, _, h2 => h2
 | c :: l, h, h1, h2 => by
  rw [Cu]
  exact A0b fun _ => B0v (fun h' d hd => h1 h' d (List.mem_cons_of_mem _ hd)) (h1 h c List.mem_cons_self h2)
theorem Mi {a b : Cl} (h : u32 a) (h2 : u32 b) : u32 (Du a b) := ⟨Nat.or_lt_two_pow (n := 32) h.1 h2.1, Nat.or_lt_two_pow (n := 32) h.2 h2.2⟩
theorem Z7 {f g : List Cl} (h : ∀ c, c ∈ f → u32 c) (h2 : ∀ c, c ∈ g → u32 c) : ∀ c, c ∈ f ++ g → u32 c := fun c hc => (List.mem_append.mp hc).elim (h c) (h2 c)
theorem A3o {f g : List Cl} (h : ∀ c, c ∈ f → u32 c) (h2 : ∀ c, c ∈ g → u32 c) : ∀ c, c ∈ Io f g → u32 c := fun c hc => by
 obtain ⟨a, ha, hc⟩ := List.mem_flatMap.mp hc
 obtain ⟨b, hb, rfl⟩ := List.mem_map.mp hc
 exact Mi (h a ha) (h2 b hb)
theorem B7w (c : Cl) : ∀ d, d ∈ A2w c → u32 d := fun d hd => by
 rcases List.mem_append.mp hd with hd | hd
 ·obtain ⟨i, _, rfl⟩ := List.mem_map.mp hd
  exact ⟨by show (0 : Nat) < _; decide, by have := Kf i; show Ed i < 4294967296; omega⟩
 ·obtain ⟨i, _, rfl⟩ := List.mem_map.mp hd
  exact ⟨by have := Kf i; show Ed i < 4294967296; omega, by show (0 : Nat) < _; decide⟩
theorem Rx {c : Cl} (h : u32 c) : Ar [c] := ⟨fun d hd => by rw [List.mem_singleton] at hd; subst hd; exact h, by unfold reach; simp⟩
theorem B0u {f g : List Cl} (h : Ar f) (h2 : Ar g) : Ts (Le f g) := Ov (Z7 h.1 h2.1)
theorem B0t {f g : List Cl} (h : Ar f) (h2 : Ar g) : Ts (Lv f g) := Ov (A3o h.1 h2.1)
theorem B9a (c : Cl) : Ts (Pl c) := Ov (B7w c)
theorem Xx {h : List Cl} {c : Cl} (hh : Ar h) : Ts (D7 h c) := A0b fun _ => B0t hh (B9a c)
theorem Kt : Ar [B1] := Rx ⟨by decide, by decide⟩
theorem B9b (f : List Cl) : Ts (Sd f) := B0v (fun h c _ hh => Xx hh) Kt
theorem B0r (f : List Cl) : Ts (Gv f) := by unfold Gv; split; exact B9b f; exact Df
theorem Tl {l : List Cl} (h : Ar l) : Ar (F8 l) := C1r h (fun c hc => (List.mem_filter.mp hc).1) (List.length_filter_le _ _)
theorem C7s {f : List Cl} (h : Ar f) : Ts (U6 f) := by unfold U6; split; exact Ov (Tl h).1; exact Df
theorem B5r (r : List Cl) : Ts (Fl r) := A0b fun _ => C7s (B0r r)
theorem C2l {f g : List Cl} (h : Ar f) (h2 : Ar g) : Ts (Qa f g) := Ov fun c hc => by
 obtain ⟨a, ha, hc⟩ := List.mem_flatMap.mp hc
 obtain ⟨b, hb, rfl⟩ := List.mem_map.mp (List.mem_filter.mp hc).1
 exact Mi (h.1 a ha) (h2.1 b hb)
abbrev D3p (x : EL) : Prop := x.2.length ≤ 64
theorem Ma (l : List Cl) : D3p (B2 l) := by
 rcases Kb l with ⟨_, _, h, h2⟩ | h | h
 ·show (B2 l).2.length ≤ 64; rw [h]; exact h2
 ·show (B2 l).2.length ≤ 64; rw [A0u A2]; decide
 ·show (B2 l).2.length ≤ 64; rw [A0u A2]; decide
theorem C9b {x : EL} {k : List Cl → EL} (h : x.1 = 0 → D3p (k x.2)) : D3p (Hh x k) := by
 by_cases h0 : x.1 = 0
 ·rw [C4 h0]; exact h h0
 ·rw [Bp h0]; show ([] : List Cl).length ≤ 64; decide
theorem B1t (h : List Cl) (c : Cl) : D3p (D7 h c) := C9b fun _ => Ma _
theorem F7 {f : List Cl} (h : A9 f = true) : f.length ≤ 64 := by
 unfold A9 at h
 simp only [Bool.and_eq_true, decide_eq_true_eq] at h
 exact h.2
theorem C7o (c : Cl) : (A2w c).length ≤ 48 := by
 unfold A2w
 rw [List.length_append, List.length_map, List.length_map]
 have h1 : (A3 c.pos).length ≤ 24 := Gg _ _
 have h2 : (A3 c.neg).length ≤ 24 := Gg _ _
 omega
theorem C8x {s i : Nat} (h : i < (A3 s).length) : 0 ≤ (A3 s).getD i 0 ∧ (A3 s).getD i 0 < 24 := by
 have h1 := L1 (Aa (d := (0 : Int)) h)
 exact ⟨h1.1, by have := h1.2; exact_mod_cast this⟩
theorem B1o {s i : Nat} (h : i < (A3 s).length) : As ((A3 s).getD i 0) := by have := C8x h; unfold As; omega
theorem A4u (f g : List Cl) : (Io f g).length = f.length * g.length := by
 unfold Io
 induction f with
 | nil => simp
 | cons a f ih => rw [List.flatMap_cons, List.length_append, ih, List.length_map, List.length_cons, Nat.succ_mul]; omega
theorem B5w (f g : List Cl) (a : Cl) : Io (f ++ [a]) g = Io f g ++ g.map fun b => Du a b := by unfold Io; rw [List.flatMap_append]; simp
theorem Bz {ok : Nat → Prop} {l : List Cl} {a : SH} {w : World} (h : Kd ok l a w) : Ar l := ⟨h.2, h.1.2.1⟩
def A1q (i : Int) : EL := if Sy i then (0, [⟨Ed i, 0⟩]) else (2, [])
theorem St.A7x {B : Cs} {Γ : List Fact} {Ms : List Bm} {w : World} {e : TypeId} {b : Nat} {l m : List Cl} {a a' : SH} (hs : St B Γ (Af b [sl a l.length, sl a' m.length] e :: Ms) w) {hBp : Prop} (hB : hBp) (hF : CL l a ∈ Γ) (hG : CL m a' ∈ Γ) : St B (Hj [(l, a), (m, a')] (some ⟨b, 0, Option.none⟩, 2) :: Γ) Ms w := by
 have h1 := ((hs.H2 (sz := 1) (m := 2) rfl Jv).Rn Ij).Q2 (x := (l, a)) List.mem_cons_self (List.mem_cons_of_mem _ hF)
 have h2 := h1.Q2 (x := (m, a')) List.mem_cons_self (List.mem_cons_of_mem _ (List.mem_cons_of_mem _ hG))
 exact (h2.Jg (F := Bj) (E := Ij) (d := C1) (bt := 24) (l := [(l, a), (m, a')]) (fun _ => rfl) hB List.mem_cons_self rfl rfl Jv).less sx_
theorem St.D5v {B : Cs} {Γ : List Fact} {Ms : List Bm} {w : World} {b : Nat} {e : TypeId} {cs : List Value} {c : Cl} (hs : St B Γ (Af b cs e :: Ms) w) {hBp : Prop} (hB : hBp) (hc : cs = Aw c) (hu : u32 c) : St B (CL [c] (some ⟨b, 0, Option.none⟩, 1) :: Γ) Ms w :=
 (hs.H2 (sz := 2) (m := 1) (by rw [hc]; rfl) Jv).Cq (l := [c]) hB (by rw [hc]; simp [Ad]) rfl (Rx hu).2 (Rx hu).1
theorem Spec.Qe {P : Program} {k : FuncId} {args : Array Value} {pre : List Fact} {e : TypeId} {r r' : EL} (he : r' = r) (h : Spec P k args pre [] (fun x : SH => .tuple #[sl x r.2.length, .int .i64 r.1]) (fun _ => []) (fun x => [Al 2 e x r.2.length (Ad r.2)])) (hr : Ts r) :
  Spec P k args pre [] (fun x : SH => .tuple #[sl x r'.2.length, .int .i64 r'.1]) (fun x => [CL r'.2 x]) (fun _ => []) := by
 subst he
 exact fun ok w hok hst => (h ok w hok hst).mono fun e w' hh => by
  obtain ⟨x, he, hs⟩ := hh
  exact ⟨x, he, hs.Cq trivial rfl rfl hr.2 hr.1⟩
theorem Spec.Sc {P : Program} {k : FuncId} {args : Array Value} {pre : List Fact} {e : TypeId} {r r' : EL} (he : r' = r) (h : Spec P k args pre [] (fun x : SH => .tuple #[sl x r.2.length, .int .i64 r.1]) (fun _ => []) (fun x => [Al 2 e x r.2.length (Ad r.2)])) :
  Spec P k args pre [] (fun x : SH => .tuple #[sl x r'.2.length, .int .i64 r'.1]) (fun _ => []) (fun x => [Al 2 e x r'.2.length (Ad r'.2)]) := by
 subst he
 exact h
structure W9 where
 form : Int → List Cl → EL
 B9 : Int → List Cl → EL
def elR (x : EL) : Ax (List Cl) := if x.1 = 0 then .ok x.2 else .bad x.1
theorem B6s {x : EL} (h : x.1 = 0) : elR x = .ok x.2 := if_pos h
theorem C0h {x : EL} (h : x.1 ≠ 0) : elR x = .bad x.1 := if_neg h
theorem No {x : EL} {e : Int} : elR x = .bad e ↔ x.1 = e ∧ e ≠ 0 := by
 unfold elR
 split
 ·rename_i h
  constructor
  ·intro h2; cases h2
  ·rintro ⟨h2, h3⟩; exact absurd (h2.symm.trans h) h3
 ·rename_i h
  constructor
  ·intro h2; injection h2 with h2; exact ⟨h2, h2 ▸ h⟩
  ·rintro ⟨h2, h3⟩; rw [h2]
def W9.row (W : W9) (k d : Int) (r : List Cl) : EL := if k = 14 then W.B9 d r else W.form d r
def D7d (W : W9) : Tr Int where
 own d k n _ r := (elR (W.row k d r)).bind fun g => .ok (.inr (n, g))
 B9 d f := (elR (W.B9 d f)).bind fun g => .ok (if g.length = 0 then none else some g)
 Li d b := .ok (d + b.2)
section
variable {g : Nat → T → Ax T}
end
theorem Sr {C : Type} {A : Tr C} {k : Int} {c : C} {ss : List Br} {s : Nat} {bs : List Br} (hs : s < ss.length) (hb : Dc A k (ss.take s) c = .ok bs) (hf : A.B9 c (ss.getD s Bk).B9 = .ok none) : Dc A k (ss.take (s + 1)) c = .ok bs := by
 rw [Ag (d := Bk) hs, Mj, hb]
 simp only [Ax.bind]
 rw [hf]
theorem A2u {C : Type} {A : Tr C} {t : T} {c : C} {e : Int} {p : Int × List Cl} (h : A.own c t.kind t.n t.name t.r = .ok (.inr p)) (hl : Dt A t.kind 0 t.kids c = .bad e) : C7 A t c = .bad e := by
 rw [Ft, h]; simp only [Ax.bind]; rw [hl]
abbrev D5a (W : W9) (t : T) (d : Int) : Int × T := I9 (C7 (D7d W) t d)
def C6a (P : List Cl → Int → List Cl → EL) (i : Int) (r : List Cl) (d : Int) (f : List Cl) : EL := if Fw (C2 f) (i + d) = false then (0, f) else Hh (Ab r 0 d) fun s => P f (i + d) s
def E7a (i : Int) (r : List Cl) : W9 := ⟨C6a D3z i r, C6a D4b i r⟩
def C0i (i : Int) (d : Int) (f : List Cl) : EL := B2 (f.map fun c => ⟨D6e c.pos (i + d), D6e c.neg (i + d)⟩)
def E6e (i : Int) : W9 := ⟨C0i i, C0i i⟩
section
variable {W : W9}
theorem B8d : size t0 = 1 := by decide
end
def E2r (x : Int × T) (k : T → Int × T) : Int × T := if x.1 ≠ 0 then (x.1, t0) else k x.2
section
variable {α : Type} {g : α → T → Int × T}
end
def A5t (t : T) (i : Int) (r : List Cl) : Int := if An t ≠ 0 then An t else if (Sy i && A9 r) = false then 2 else 0
def D0p (t : T) (i : Int) (r : List Cl) : Int × T := if A5t t i r ≠ 0 then (A5t t i r, t0) else if (Ab r i 1).1 ≠ 0 then ((Ab r i 1).1, t0) else E2r (D5a (E7a i (Ab r i 1).2) t 0) fun x => D5a (E6e i) x 0
section
variable {P : Program} [Tab P] {f : FuncId} {R : Ending → World → Prop} {B : Cs} {n : Fz} {K : List Item} {ops : Array Oper} {l : List Nat} {σ : Nat → Value} {Γ : List Fact} {Ms : List Bm} {dst : Option Tmp} {ty : TypeId} {x : Operand}
end
end Go.Hy
namespace Go.Hy
open Go Go.ChangeShapes Go.WideShapes Go.RowKit Go.Shelf Go.Proofs
theorem Yp {C : Checked} {os : Os} {f : FuncId} {fn : Func} {s : ChangeSpec} {conds : List PathCond} {ts : List TypeId} {tb : TypeId} {H : Type} {enc : TypeId × Value → H} {L : List (String × DataW Unit)}
  (own : ownKnob C.prog.godebug = none) (started : os.Started) (noInit : C.prog.inits.idxOf? f = none) (hfn : C.prog.funcs[f]? = some fn)
  (witness : ∃ (w : World) (tape : Tape) (i : Input), w.os = os ∧ (w.forCall tape i).Shaped C.prog ∧ i.vars = [] ∧ Input.okWide C.prog (w.forCall tape i) .any w.heap.size f i ∧
   ((s.pre enc C.prog fn conds false (w.forCall tape i).memory i.args ∧ laidMetH C.prog L (w.forCall tape i).memory) ∧ sizedMet enc C.prog fn (OpenSpec.ofChange s) false (w.forCall tape i).memory i.args) ∧ Assume.holds {} C.prog (lone (Frame.enter C.prog f i.args .normal) [] (w.forCall tape i)))
  (laid : laidOutB C.prog = true) (hps : fn.params.toList = ts) (hread : ts.all (fun t => C.prog.readableRec t && decide (t < C.prog.types.size)) = true) (hres : fn.resultTypes = #[tb]) (hbool : C.prog.underlying tb = some .bool) (hvars : s.vars = [])
  (hsays : ∀ ds : List (DataW H), ds.length = ts.length → s.fn H ds = { results := [.lit (.bool true)], args := ds })
  (hcall : ∀ (W : World) (base : Nat) (args : Array Value) (ds : List (DataW H)) (p : List MemPlace), (∀ (j : Nat) t v, ts[j]? = some t → args[j]? = some v → Value.okWide C.prog W .any base t v) →
   DataW.TrodAll enc C.prog W 0 (fun _ => true) true ts args.toList ds p → (∀ x, x ∈ DataW.weightsEach C.prog ts ds → x ≤ reach) → laidMetH C.prog L W →
   Calls C.prog f args W fun e W' => e = .returned (.bool true) ∧ Below W.heap.size W W') :
  ReturnsInHanded {} C os f .any (fun w args => (s.pre enc C.prog fn conds false w args ∧ laidMetH C.prog L w) ∧ sizedMet enc C.prog fn (OpenSpec.ofChange s) false w args) (s.post enc C.prog fn false true false false) := by
 refine returnsInHanded_of_change_and (X := fun w _ => laidMetH C.prog L w) (fun _ _ _ hh h => h.of_heap hh) own started noInit hfn witness ?_
 intro W base args ds gs before hval hW hcnd hwt hL _
 have hW' := hW
 obtain ⟨p, q, hA, hV, rfl, hfz, hnd⟩ := hW
 rw [hvars] at hV
 obtain ⟨rfl, rfl⟩ := trodVars_none hV
 rw [hps] at hA hwt
 have hlen : ∀ {ts : List TypeId} {vs : List Value} {ds : List (DataW H)} {ps : List MemPlace}, DataW.TrodAll enc C.prog W 0 (fun _ => true) true ts vs ds ps → ds.length = ts.length := by
  intro ts
  induction ts with
  | nil => intro vs ds ps h; obtain ⟨_, rfl, _⟩ := trodAll_nil h; rfl
  | cons t ts ih =>
   intro vs ds ps h
   obtain ⟨v, vs1, d, ds1, a, b, rfl, rfl, rfl, _, h2⟩ := trodAll_cons h
   simp [ih h2]
 have hvt : s.plain.varTypes C.prog = [] := by
  have : s.plain.vars = [] := hvars
  unfold DataSpec.varTypes; rw [this]; rfl
 have hw2 : ∀ x, x ∈ DataW.weightsEach C.prog ts ds → x ≤ reach := by
  intro x hx
  rw [List.append_nil, hvt, List.append_nil] at hwt
  have := List.all_eq_true.mp hwt x hx
  exact of_decide_eq_true this
 refine (hcall W base args ds p (fun j t v ht hv => hval j t v (by rw [← Array.getElem?_toList, hps]; exact ht) hv) hA hw2 hL).mono ?_
 intro e W' ⟨he, hb⟩
 have hlt : ∀ x ∈ p, x.block < W.heap.size := fun x hx => hW'.lt x (by simpa using hx)
 refine ⟨.bool true, he, ds, [], p ++ [], [], p, [], hW', ?_, ?_, ?_, hb.frame _, fun h => by cases h⟩
 ·rw [List.append_nil, hsays ds (hlen hA), hres]
  exact ⟨[], [], ⟨1, by simp [DataW.trod, Value.cells, hbool]⟩, rfl, rfl⟩
 ·rw [List.append_nil, hsays ds (hlen hA), hps]
  refine Sq laid hb (fun t ht => ?_) hA hlt
  have := List.all_eq_true.mp hread t ht
  simpa using this
 ·rw [List.append_nil, hsays ds (hlen hA), hvars]
  rfl
theorem C5h {P : Program} {W : World} {nm : String} {t e : TypeId} {tab : List Nat} (hg : P.globalNamed nm = some 0) (ht : (P.globals[0]?).map (·.type) = some t) (hu : P.underlying t = some (.array tab.length e)) (he : P.underlying e = some (.int .u8)) (hc : P.cellsOf e = 1) (hc2 : P.cellsOf t = tab.length) (hpos : 0 < tab.length)
  (hp : ([(nm, (DataW.agg (tab.map fun (v : Nat) => .lit (.int .u8 (v : Int))) : DataW Unit))].all fun x => x.2.handleName?.isNone) = true) (h : laidMetH P [(nm, .agg (tab.map fun (v : Nat) => .lit (.int .u8 (v : Int))))] W) : TabAt 0 tab W ∧ 0 < W.heap.size := by
 rw [MakeChecks.laidMetH_plain _ _ _ hp] at h
 obtain ⟨ps, ⟨g0, t0, cs0, f0, p0, q0, hg0, ht0, hv0, hd0, _⟩, _⟩ := h
 obtain rfl := u_ hg hg0
 obtain rfl := u_ ht ht0
 obtain ⟨xs, m1, rfl, hx1, hlen, hn3, hel⟩ := DataW.trod_array hu hd0
 simp only [Prod.mk.injEq, DataW.agg.injEq] at hx1
 have hcell : ∀ j, j < tab.length → W.cell? ⟨0, j, none⟩ = some (.int .u8 (tab.getD j 0)) := by
  intro j hj
  have h1 := hel j hj
  rw [hc, Nat.mul_one, List.getElem?_eq_getElem A2] at h1
  obtain ⟨n, e1, e2, _⟩ := DataW.trod_int he h1
  have h2 := World.var?_cell hg0 hv0 j
  have h3 : cs0[j]? = some (.int .u8 n) := by
   have h4 := congrArg (fun l => l[0]?) e1
   simp only [List.getElem?_take, List.getElem?_drop, List.getElem?_cons_zero] at h4
   simpa using h4
  rw [h2, h3]
  have h5 : (tab.map fun (v : Nat) => (DataW.lit (.int .u8 (v : Int)) : DataW Unit))[j]? = (xs.map (·.1))[j]? := by rw [hx1.1]
  rw [List.getElem?_map, List.getElem?_map, List.getElem?_eq_getElem hj, List.getElem?_eq_getElem (show j < xs.length by omega)] at h5
  simp only [Option.map_some, Option.some.injEq] at h5
  rw [e2] at h5
  simp only [DataW.lit.injEq, Lit.int.injEq, true_and] at h5
  rw [List.getD_eq_getElem?_getD, List.getElem?_eq_getElem hj]
  simp [← h5]
 refine ⟨hcell, ?_⟩
 have h6 := hcell 0 hpos
 refine Nat.lt_of_not_le fun hz => ?_
 unfold World.cell? at h6
 rw [Array.getElem?_eq_none (show W.heap.size ≤ 0 from hz)] at h6
 simp at h6
theorem C5i {W : World} {tab : List Nat} (h : TabAt 0 tab W ∧ 0 < W.heap.size) : (At 0 0 (tab.map fun (v : Nat) => Value.int .u8 (v : Int))).f (okw W) W := by
 refine ⟨h.2, fun j v hj => ?_⟩
 rw [List.getElem?_map] at hj
 cases hq : tab[j]? with
 | none => rw [hq] at hj; cases hj
 | some k =>
  rw [hq] at hj
  injection hj with hj
  subst hj
  have hlt : j < tab.length := by
   refine Nat.lt_of_not_le fun hn => ?_
   rw [List.getElem?_eq_none hn] at hq
   cases hq
  have h1 := h.1 j hlt
  rw [List.getD_eq_getElem?_getD, hq] at h1
  rw [Nat.zero_add]
  exact h1
end Go.Hy
namespace Go.Hy
abbrev Wd : Type := Nat → Prop
def B4o (c : Cl) (P N : Wd) : Prop := (∀ i, c.pos.testBit i = true → P i) ∧ ∀ i, c.neg.testBit i = true → N i
def sat (l : List Cl) (P N : Wd) : Prop := ∃ c, c ∈ l ∧ B4o c P N
def Kl (s : Nat) : Wd := fun i => s.testBit i = true
theorem C7n {a b : Nat} : a ||| b = a ↔ ∀ i, b.testBit i = true → a.testBit i = true := by
 constructor
 ·intro h i hi
  rw [← h, Nat.testBit_or, hi, Bool.or_true]
 ·intro h
  refine Nat.eq_of_testBit_eq fun i => ?_
  rw [Nat.testBit_or]
  cases hb : b.testBit i with
  | false => simp
  | true => rw [h i hb]; rfl
theorem L3 {a b : Cl} : below a b = true ↔ B4o b (Kl a.pos) (Kl a.neg) := by
 unfold below B4o Kl
 rw [Bool.and_eq_true, decide_eq_true_eq, decide_eq_true_eq, C7n, C7n]
theorem A4c (c : Cl) : B4o c (Kl c.pos) (Kl c.neg) := ⟨fun i h => h, fun i h => h⟩
theorem A7c {a b : Cl} {P N : Wd} (h : below a b = true) (hs : B4o a P N) : B4o b P N := by
 have h1 := L3.mp h
 exact ⟨fun i hi => hs.1 i (h1.1 i hi), fun i hi => hs.2 i (h1.2 i hi)⟩
theorem B3l {a b c : Cl} (h : below a b = true) (h2 : below b c = true) : below a c = true := L3.mpr (A7c h2 (L3.mp h))
theorem B7j {a b : Cl} (h : below a b = true) (h2 : below b a = true) : a = b := by
 have h1 := L3.mp h
 have h3 := L3.mp h2
 unfold B4o Kl at h1 h3
 have e1 : a.pos = b.pos := Nat.eq_of_testBit_eq fun i => by
  cases ha : a.pos.testBit i with
  | true => exact (h3.1 i ha).symm
  | false => cases hb : b.pos.testBit i with
   | false => rfl
   | true => rw [h1.1 i hb] at ha; cases ha
 have e2 : a.neg = b.neg := Nat.eq_of_testBit_eq fun i => by
  cases ha : a.neg.testBit i with
  | true => exact (h3.2 i ha).symm
  | false => cases hb : b.neg.testBit i with
   | false => rfl
   | true => rw [h1.2 i hb] at ha; cases ha
 cases a; cases b; simp_all
theorem A7j {l m : List Cl} (Q : Wd → Wd → Prop) (hl : ∀ c, c ∈ l → Q (Kl c.pos) (Kl c.neg)) (hm : ∀ c, c ∈ m → Q (Kl c.pos) (Kl c.neg)) (h : ∀ P N, Q P N → (sat l P N ↔ sat m P N)) : E8 l = E8 m := by
 have half : ∀ {l m : List Cl}, (∀ c, c ∈ l → Q (Kl c.pos) (Kl c.neg)) → (∀ c, c ∈ m → Q (Kl c.pos) (Kl c.neg)) → (∀ P N, Q P N → (sat l P N ↔ sat m P N)) → ∀ x, x ∈ E8 l → x ∈ E8 m := by
  intro l m hl hm h x hx
  obtain ⟨h1, h2⟩ := Hc.mp hx
  have key : ∀ d, d ∈ m → below x d = true → x = d := by
   intro d hd hb
   obtain ⟨e, he, hse⟩ := (h _ _ (hm d hd)).mpr ⟨d, hd, A4c d⟩
   have hb2 : below d e = true := L3.mpr hse
   rcases K8.mp h2 e he with h3 | h3
   ·subst h3; exact B7j hb hb2
   ·rw [B3l hb hb2] at h3; cases h3
  obtain ⟨d, hd, hsd⟩ := (h _ _ (hl x h1)).mp ⟨x, h1, A4c x⟩
  have hxd := key d hd (L3.mpr hsd)
  refine Hc.mpr ⟨hxd ▸ hd, K8.mpr fun e he => ?_⟩
  cases hb : below x e with
  | false => exact .inr rfl
  | true => exact .inl (key e he hb)
 exact Ti (J5 l) (J5 m) fun x => ⟨half hl hm h x, half hm hl (fun P N hq => (h P N hq).symm) x⟩
theorem B6c {l m : List Cl} (Q : Wd → Wd → Prop) (r1 : l.all B3 = true) (r2 : m.all B3 = true) (hl : ∀ c, c ∈ l → Q (Kl c.pos) (Kl c.neg)) (hm : ∀ c, c ∈ m → Q (Kl c.pos) (Kl c.neg)) (h : ∀ P N, Q P N → (sat l P N ↔ sat m P N)) : B2 l = B2 m := by
 unfold B2
 rw [r1, r2, A7j Q hl hm h]
theorem Ja {l : List Cl} (h : A9 l = true) : l.all B3 = true := by
 unfold A9 at h
 simp only [Bool.and_eq_true] at h
 exact h.1.1.1
theorem Eu {l : List Cl} (h : A7 l = true) : A9 l = true ∧ ∀ c, c ∈ l → Lf c = false := by
 unfold A7 at h
 rw [Bool.and_eq_true, Bool.not_eq_true'] at h
 refine ⟨h.1, fun c hc => ?_⟩
 cases hq : Lf c with
 | false => rfl
 | true => rw [List.any_eq_true.mpr ⟨c, hc, hq⟩] at h; cases h.2
section
variable {f g l : List Cl} {P N : Wd} {a b c : Cl}
end
theorem P7 {s : Nat} {i : Int} {j : Nat} : (Dx s i).testBit j = true ↔ j < 24 ∧ s.testBit j = true ∧ (j : Int) ≠ i := by
 unfold Dx
 split
 ·rename_i h
  rw [Fo, F9, Nat.testBit_two_pow]
  simp only [Bool.and_eq_true, decide_eq_true_eq, Bool.not_eq_true', decide_eq_false_iff_not]
  constructor
  ·rintro ⟨⟨_, h2, h3⟩, h4⟩; exact ⟨h2, h3, by omega⟩
  ·rintro ⟨h1, h2, h3⟩; exact ⟨⟨by omega, h1, h2⟩, by omega⟩
 ·rename_i h
  rw [F9]
  simp only [Bool.and_eq_true, decide_eq_true_eq]
  constructor
  ·rintro ⟨h1, h2⟩; exact ⟨h1, h2, by omega⟩
  ·rintro ⟨h1, h2, _⟩; exact ⟨h1, h2⟩
theorem A7h {c : Cl} (h : B3 c = true) : (∀ i, c.pos.testBit i = true → i < 24) ∧ ∀ i, c.neg.testBit i = true → i < 24 := by
 obtain ⟨h1, h2⟩ := Dn.mp h
 have key : ∀ s i : Nat, s < 16777216 → s.testBit i = true → i < 24 := fun s i hs hi => by
  refine Decidable.byContradiction fun hn => ?_
  have h3 : s < 2 ^ i := Nat.lt_of_lt_of_le (show s < 2 ^ 24 by omega) (Nat.pow_le_pow_right A2 A2)
  rw [Nat.testBit_lt_two_pow h3] at hi
  cases hi
 exact ⟨fun i hi => key _ i h1 hi, fun i hi => key _ i h2 hi⟩
theorem Dz {s : Nat} {x : Int} : x ∈ A3 s ↔ 0 ≤ x ∧ x < 24 ∧ s.testBit x.toNat = true := E9
theorem A5e {g : List Cl → Cl → EL} {L : List Cl} {I : List Cl → List Cl → Prop} (hs : ∀ pre c h, c ∈ L → I pre h → (g h c).1 = 0 → I (pre ++ [c]) (g h c).2) : ∀ (m pre h : List Cl), I pre h → (∀ c, c ∈ m → c ∈ L) → (Cu g h m).1 = 0 → I (pre ++ m) (Cu g h m).2
 | [], pre, h, hi, _, _ => by rw [List.append_nil]; exact hi
 | c :: m, pre, h, hi, hm, h0 => by
  rw [Cu] at h0 ⊢
  by_cases h1 : (g h c).1 = 0
  ·rw [C4 h1] at h0 ⊢
   have h2 := A5e hs m (pre ++ [c]) _ (hs pre c h (hm c List.mem_cons_self) hi h1) (fun d hd => hm d (List.mem_cons_of_mem _ hd)) h0
   rwa [List.append_assoc] at h2
  ·rw [Bp h1] at h0
   exact absurd h0 h1
theorem A1z {x : EL} {k : List Cl → EL} (h : (Hh x k).1 = 0) : x.1 = 0 ∧ (k x.2).1 = 0 ∧ Hh x k = k x.2 := by
 by_cases h1 : x.1 = 0
 ·rw [C4 h1] at h ⊢; exact ⟨h1, h, rfl⟩
 ·rw [Bp h1] at h; exact absurd h h1
theorem E3a (l : List Cl) : (E8 l).length ≤ l.length := by
 have := Zm l l.length
 rwa [B0d] at this
theorem B1u {l : List Cl} (h : l.all B3 = true) (h2 : l.length ≤ 64) : (B2 l).1 = 0 := by
 unfold B2
 rw [if_neg (by simp [h]), if_neg (by have := E3a l; omega)]
theorem C3c {s j : Nat} (hj : j < 24) : (j : Int) ∈ A3 s ↔ s.testBit j = true := by
 rw [Dz]
 simp only [Int.toNat_natCast]
 constructor
 ·rintro ⟨_, _, h⟩; exact h
 ·intro h; exact ⟨by omega, by omega, h⟩
def uE : T := .mk 3 0 ⟨#[]⟩ [] [] []
def aE (t u : T) : T := .mk 6 0 ⟨#[]⟩ [] [t, u] []
def lE (t : T) : T := .mk 5 0 ⟨#[]⟩ [] [t] []
theorem A7g {a b : Cl} (h : B3 a = true) (h2 : B3 b = true) : B3 (Du a b) = true := by
 obtain ⟨a1, a2⟩ := Dn.mp h
 obtain ⟨b1, b2⟩ := Dn.mp h2
 exact Dn.mpr ⟨Nat.or_lt_two_pow (n := 24) a1 b1, Nat.or_lt_two_pow (n := 24) a2 b2⟩
theorem A6d {f g : List Cl} (h : f.all B3 = true) (h2 : g.all B3 = true) : (Io f g).all B3 = true := List.all_eq_true.mpr fun c hc => by
 obtain ⟨a, ha, hc⟩ := List.mem_flatMap.mp hc
 obtain ⟨b, hb, rfl⟩ := List.mem_map.mp hc
 exact A7g (List.all_eq_true.mp h a ha) (List.all_eq_true.mp h2 b hb)
theorem D4u {f g : List Cl} (h : f.all B3 = true) (h2 : g.all B3 = true) : (f ++ g).all B3 = true := by rw [List.all_append, h, h2]; rfl
theorem B5v {f : List Cl} (h : (Sd f).1 = 0) : A9 (Sd f).2 = true :=
 A5e (g := D7) (L := f) (I := fun pre h => A9 h = true) (fun pre c h hc hi h0 => by
  unfold D7 at h0 ⊢
  obtain ⟨a1, a2, a3⟩ := A1z h0
  rw [a3]
  exact X3 a2) f [] [B1] Jv (fun c hc => hc) h
theorem A0z {k n : Int} {nm : ByteArray} {r : List Cl} (h : Rb k n nm r) : (k = 14 → A7 r = true) ∧ A9 r = true := by
 obtain ⟨_, _, h3, h4, h5, h6, h7⟩ := h
 refine ⟨h6, ?_⟩
 by_cases e : k = 13 ∨ k = 21 ∨ k = 26
 ·exact h5 e
 ·by_cases e2 : k = 14
  ·exact (Eu (h6 e2)).1
  ·rw [h7 A2]; decide
theorem D3d (i : Int) : Ts (A1q i) := by
 unfold A1q
 split
 ·exact Rx ⟨by have := Kf i; show Ed i < _; omega, by show (0 : Nat) < _; omega⟩
 ·exact Df
theorem B1v {l : List Cl} (h : (B2 l).1 ≠ 0) : (B2 l).2 = [] := by
 unfold B2 at h ⊢
 (repeat' split) <;> simp_all
section
variable {C : Type} {A : Tr C}
end
def Fc (l : List Cl) : List Cl := l.filter fun c => !Lk c
theorem C4d {l : List Cl} {i : Nat} (h : i < l.length) (hc : Lk (l.getD i B1) = false) : Fc (l.take (i + 1)) = Fc (l.take i) ++ [l.getD i B1] := by
 unfold Fc
 rw [Ag (d := B1) h, List.filter_append, List.filter_cons, if_pos (by rw [hc]; rfl), List.filter_nil]
theorem D0u {l : List Cl} {i : Nat} (h : i < l.length) (hc : Lk (l.getD i B1) = true) : Fc (l.take (i + 1)) = Fc (l.take i) := by
 unfold Fc
 rw [Ag (d := B1) h, List.filter_append, List.filter_cons, if_neg (by rw [hc]; decide), List.filter_nil, List.append_nil]
theorem A5y (l : List Cl) : (Fc l).length ≤ l.length := List.length_filter_le _ _
theorem Wv {l : List Cl} (h : l.all B3 = true) : Fc l = F8 l := by
 unfold Fc F8
 refine List.filter_congr fun c hc => ?_
 rw [Wu (List.all_eq_true.mp h c hc)]
theorem B7e {l : List Cl} (h : ∀ c, c ∈ l → Lf c = false) : F8 l = l := by
 unfold F8
 exact List.filter_eq_self.mpr fun c hc => by rw [h c hc]; rfl
theorem A0x {f g : List Cl} : Jn f g = if (A7 f && A7 g) = false then (2, []) else B2 (Fc (f ++ g)) := by
 unfold Jn
 split
 ·rfl
 ·rename_i h
  simp only [Bool.not_eq_false, Bool.and_eq_true] at h
  rw [Wv (D4u (Ja (Eu h.1).1) (Ja (Eu h.2).1)), B7e fun c hc => (List.mem_append.mp hc).elim ((Eu h.1).2 c) ((Eu h.2).2 c)]
  rfl
def E5 (t : T) (a b : Int) : Int := if An t ≠ 0 then An t else if a < 0 ∨ b < 0 then 2 else 0
def Nu (t : T) (f b : Int) : Int := if E5 t f b = 0 ∧ 1000000 < b then 2 else E5 t f b
def Rh (x : T) : Int × T := if x.kind < 0 then (-x.kind, t0) else (0, x)
theorem A5s {vb db : Int} {t : T} {v d : Int} (hf : Em t) : Rh (Fm vb db t v d) = I9 (C7 (Bh vb db) t (v, d)) := by
 unfold Rh
 rcases Jl (vb := vb) (db := db) (v := v) (d := d) hf with ⟨h1, h2⟩ | ⟨e, h1, h2, h3⟩
 ·rw [if_neg A2, h1]; rfl
 ·rw [h3, if_pos (Oo h1), h2]
  show (-(-e), t0) = (e, t0)
  rw [Int.neg_neg]
theorem B1r {vb db : Int} : ∀ (t : T) {c : Int × Int} {e : Int}, C7 (Bh vb db) t c = .bad e → e ≤ 100 := T.ind fun t ih c e h => by
 have hr : ∀ {l : List Cl} {f e : Int}, C0 db l f = .bad e → e ≤ 100 := fun {l f e} h => by
  unfold C0 at h
  split at h
  ·cases h
  ·split at h
   ·cases h
   ·injection h with h
    have := Vr (l := l) (f := f) (b := db)
    omega
 rcases Qv h with h1 | ⟨b, _, h1⟩ | ⟨p, hp, h1 | ⟨c', _, h2⟩⟩
 ·rw [Nk] at h1
  rcases B8 h1 with h2 | ⟨g, _, h2⟩
  ·exact hr h2
  ·split at h2
   ·injection h2 with h2; omega
   ·cases h2
 ·rw [L5] at h1
  rcases B8 h1 with h2 | ⟨g, _, h2⟩
  ·exact hr h2
  ·cases h2
 ·cases h1
 ·exact ih p hp h2
theorem N5 {t : T} {a b : Int} : E5 t a b = 0 ↔ An t = 0 ∧ 0 ≤ a ∧ 0 ≤ b := by
 unfold E5
 split
 ·rename_i h; simp [h]
 ·rename_i h
  split <;> omega
theorem B4c {t : T} {f b : Int} (hb : As b) (h : Nu t f b ≠ 0) : Bd t f b = (Nu t f b, t0) := by
 unfold Nu at h ⊢
 unfold Bd Bt
 by_cases h1 : An t ≠ 0
 ·have h2 : E5 t f b = An t := by unfold E5; rw [if_pos h1]
  rw [if_pos h1, h2, if_neg (fun h3 => h1 h3.1)]
 ·rw [if_neg h1]
  by_cases h2 : f < 0 ∨ b < 0
  ·have h3 : E5 t f b = 2 := by unfold E5; rw [if_neg h1, if_pos h2]
   rw [if_pos (by simp; omega), h3, if_neg A2]
  ·have h3 : E5 t f b = 0 := by unfold E5; rw [if_neg h1, if_neg h2]
   rw [h3] at h ⊢
   by_cases h4 : 1000000 < b
   ·rw [if_pos (by have := B9n hb A2; simp; omega), if_pos ⟨rfl, h4⟩]
   ·rw [if_neg (fun h5 => h4 h5.2)] at h; exact absurd rfl h
theorem B4d {t : T} {f b : Int} (hb : As b) (h : Nu t f b = 0) : An t = 0 ∧ 0 ≤ f ∧ 0 ≤ b ∧ b ≤ 1000000 ∧ Bd t f b = I9 (A3i t f b) := by
 unfold Nu at h
 by_cases h1 : E5 t f b = 0
 ·obtain ⟨h2, h3, h4⟩ := N5.mp h1
  by_cases h5 : 1000000 < b
  ·rw [if_pos ⟨h1, h5⟩] at h; cases h
  ·exact ⟨h2, h3, h4, by omega, B2h h2 (by have := C2s h4 A2; simp [h3, h4, this])⟩
 ·rw [if_neg (fun h2 => h1 h2.1)] at h; exact absurd h h1
theorem B6t {t : T} {f b : Int} (h : E5 t f b ≠ 0) : Bc t f b = (E5 t f b, t0) := by
 unfold Bc Bt
 by_cases h1 : An t ≠ 0
 ·have h2 : E5 t f b = An t := by unfold E5; rw [if_pos h1]
  rw [if_pos h1, h2]
 ·rw [if_neg h1]
  by_cases h2 : f < 0 ∨ b < 0
  ·have h3 : E5 t f b = 2 := by unfold E5; rw [if_neg h1, if_pos h2]
   rw [if_pos (by simp; omega), h3]
  ·exact absurd (N5.mpr ⟨by omega, by omega, by omega⟩) h
theorem B6v {t : T} {f b : Int} (h : E5 t f b = 0) : Bc t f b = I9 (C7 (Bh 0 b) t (0, if 1000000000 < f then 1000000000 else f)) := by
 obtain ⟨h2, h3, h4⟩ := N5.mp h
 rw [show Bc t f b = I9 (B2x t f b) from B2h h2 (by simp [h3, h4])]
 by_cases h5 : 24 < f
 ·have := C8y (vb := 0) (db := b) (v := 0) (d := if 24 < f then 24 else f) (d' := if 1000000000 < f then 1000000000 else f) (Nn.mp h2).2 (by split <;> omega) (by split <;> omega)
  show I9 (C7 _ _ _) = _
  rw [this]
 ·show I9 (C7 _ _ (0, if 24 < f then 24 else f)) = _
  rw [if_neg h5, if_neg A2]
theorem B1n (s : Nat) : (A3 s).Pairwise (· < ·) := by
 unfold A3 Bx
 rw [List.pairwise_map]
 refine List.Pairwise.imp (fun {a b} h => by omega) ((List.pairwise_lt_range (n := 24)).filter _)
theorem Rv (l : List Int) (x : Int) : Hb (l ++ [x]) = Hb l + 2 ^ x.toNat := by simp [Hb]
theorem A4a (x : Int) (l : List Int) : Hb (x :: l) = 2 ^ x.toNat + Hb l := by simp [Hb]
theorem A9y : ∀ {l : List Int} {a : Nat}, l.Pairwise (· < ·) → (∀ x, x ∈ l → (a : Int) ≤ x) → ∃ q, Hb l = 2 ^ a * q ∧ ∀ j : Nat, (Hb l).testBit j = true ↔ (j : Int) ∈ l
 | [], a, _, _ => ⟨0, by simp [Hb], fun j => by simp [Hb]⟩
 | x :: l, a, hp, ha => by
  have hx := ha x List.mem_cons_self
  obtain ⟨h1, h2⟩ := List.pairwise_cons.mp hp
  obtain ⟨q, hq, hb⟩ := A9y (l := l) (a := x.toNat + 1) h2 fun y hy => by have := h1 y hy; omega
  have hlt : 2 ^ x.toNat < 2 ^ (x.toNat + 1) := Nat.pow_lt_pow_right Jv A2
  have e : Hb (x :: l) = 2 ^ (x.toNat + 1) * q ||| 2 ^ x.toNat := by
   rw [A4a, hq, ← Nat.two_pow_add_eq_or_of_lt hlt, Nat.add_comm]
  refine ⟨2 ^ (x.toNat - a) * (2 * q + 1), ?_, fun j => ?_⟩
  ·rw [A4a, hq, ← Nat.mul_assoc, ← Nat.pow_add, show a + (x.toNat - a) = x.toNat by omega, Nat.pow_succ, Nat.mul_add, Nat.mul_one, Nat.mul_assoc]
   omega
  ·rw [e, Nat.testBit_or, Bool.or_eq_true, ← hq, hb, List.mem_cons, Nat.testBit_two_pow, decide_eq_true_eq]
   constructor
   ·rintro (h | h)
    ·exact .inr h
    ·exact .inl A2
   ·rintro (h | h)
    ·exact .inr A2
    ·exact .inl h
theorem C5s {l : List Int} (h : l.Pairwise (· < ·)) (h0 : ∀ x, x ∈ l → 0 ≤ x) (j : Nat) : (Hb l).testBit j = true ↔ (j : Int) ∈ l := by
 obtain ⟨_, _, h2⟩ := A9y (a := 0) h fun x hx => by have := h0 x hx; omega
 exact h2 j
theorem B0z {a b : Nat} (h : ∀ j, a.testBit j = true ↔ b.testBit j = true) : a = b := Nat.eq_of_testBit_eq fun j => by
 have := h j
 cases h1 : a.testBit j <;> cases h2 : b.testBit j <;> simp_all
theorem A9x (s : Nat) (i : Int) : Hb ((A3 s).filter fun x => decide (x ≠ i)) = Dx s i := B0z fun j => by
 rw [C5s ((B1n s).filter _) (fun x hx => (Dz.mp (List.mem_filter.mp hx).1).1), List.mem_filter, Dz, P7]
 simp only [decide_eq_true_eq, Int.toNat_natCast]
 constructor
 ·rintro ⟨⟨_, h2, h3⟩, h4⟩; exact ⟨by omega, h3, h4⟩
 ·rintro ⟨h2, h3, h4⟩; exact ⟨⟨by omega, by omega, h3⟩, h4⟩
theorem We {s : Nat} {i : Int} {j : Nat} : (Im s i).testBit j = true ↔ j < 24 ∧ (s.testBit j = true ∨ (j : Int) = i) := by
 have h24 : (s &&& 16777215).testBit j = true ↔ j < 24 ∧ s.testBit j = true := by
  rw [show (16777215 : Nat) = 2 ^ 24 - 1 by decide, Nat.testBit_and, Nat.testBit_two_pow_sub_one, Bool.and_eq_true, decide_eq_true_eq, and_comm]
 unfold Im
 split
 ·rename_i h
  rw [Nat.testBit_or, Bool.or_eq_true, h24, Nat.testBit_two_pow, decide_eq_true_eq]
  constructor
  ·rintro (h1 | h1)
   ·exact ⟨h1.1, .inl h1.2⟩
   ·exact ⟨by omega, .inr A2⟩
  ·rintro ⟨h1, h2 | h2⟩
   ·exact .inl ⟨h1, h2⟩
   ·exact .inr A2
 ·rename_i h
  rw [h24]
  constructor
  ·rintro ⟨h1, h2⟩; exact ⟨h1, .inl h2⟩
  ·rintro ⟨h1, h2 | h2⟩
   ·exact ⟨h1, h2⟩
   ·omega
theorem A3z {X Y i : Nat} (h : ∀ j, j ≠ i → (X.testBit j = true ↔ Y.testBit j = true)) (hx : X.testBit i = true) (hy : Y.testBit i = false) : ∀ n, Hb (Bx X n) = Hb (Bx Y n) + if i < n then 2 ^ i else 0
 | 0 => by simp [Bx, Hb]
 | n + 1 => by
  have ih := A3z h hx hy n
  rw [Gc, Gc]
  by_cases e : n = i
  ·subst e
   rw [if_pos hx, if_neg (by simp [hy]), Rv, ih, if_neg (Nat.lt_irrefl _), if_pos (Nat.lt_succ_self _), Int.toNat_natCast]
   omega
  ·have h1 := h n e
   by_cases hb : Y.testBit n = true
   ·rw [if_pos hb, if_pos (h1.mpr hb), Rv, Rv, ih]
    by_cases hi : i < n
    ·rw [if_pos hi, if_pos A2]; omega
    ·rw [if_neg hi, if_neg A2]; omega
   ·rw [if_neg hb, if_neg (fun h2 => hb (h1.mp h2)), ih]
    by_cases hi : i < n
    ·rw [if_pos hi, if_pos A2]
    ·rw [if_neg hi, if_neg A2]
theorem D7c {s : Nat} (h : s < 16777216) : Hb (A3 s) = s := by rw [Tk, Yg]; exact Nat.mod_eq_of_lt h
theorem C5q {s : Nat} {i : Int} (h : 0 ≤ i ∧ i < 24) : Hb (A3 (Dx s i) ++ [i]) = Im s i := by
 rw [Rv]
 have hf := A3z (X := Im s i) (Y := Dx s i) (i := i.toNat) (fun j hj => by
  rw [We, P7]
  constructor
  ·rintro ⟨h1, h2 | h2⟩
   ·exact ⟨h1, h2, by omega⟩
   ·omega
  ·rintro ⟨h1, h2, _⟩; exact ⟨h1, .inl h2⟩) (We.mpr ⟨by omega, .inr A2⟩) (by
  cases hb : (Dx s i).testBit i.toNat with
  | false => rfl
  | true => have := (P7.mp hb).2.2; omega) 24
 rw [if_pos A2] at hf
 rw [← hf]
 exact D7c (Z3 s i)
theorem A9i (s : Nat) : Dx s (-1) = s &&& 16777215 := by unfold Dx; rw [if_neg Jv]
theorem C4w {s : Nat} {i : Int} (h : ¬ (0 ≤ i ∧ i < 24)) : Im s i = Dx s (-1) := by rw [A9i]; unfold Im; rw [if_neg h]
theorem C1h {a b : Nat} (ha : a < 16777216) (hb : b < 16777216) : (A3 b).foldl Im a = a ||| b := B0z fun j => by
 have key : ∀ (l : List Int) (x : Nat), x < 16777216 → ((l.foldl Im x).testBit j = true ↔ x.testBit j = true ∨ ((j : Int) ∈ l ∧ j < 24)) := by
  intro l
  induction l with
  | nil => intro x hx; simp
  | cons y l ih =>
   intro x hx
   rw [List.foldl_cons, ih _ (Z3 x y), We, List.mem_cons]
   have h24 : x.testBit j = true → j < 24 := fun h => Nat.lt_of_not_le fun h2 => by
    rw [Nat.testBit_lt_two_pow (Nat.lt_of_lt_of_le hx (Nat.pow_le_pow_right (n := 2) (i := 24) A2 h2))] at h
    cases h
   constructor
   ·rintro (⟨h1, h2 | h2⟩ | h2)
    ·exact .inl h2
    ·exact .inr ⟨.inl h2, h1⟩
    ·exact .inr ⟨.inr h2.1, h2.2⟩
   ·rintro (h1 | ⟨h1 | h1, h2⟩)
    ·exact .inl ⟨h24 h1, .inl h1⟩
    ·exact .inl ⟨h2, .inr h1⟩
    ·exact .inr ⟨h1, h2⟩
 rw [key _ _ ha, Nat.testBit_or, Bool.or_eq_true, Dz]
 have h24 : b.testBit j = true → j < 24 := fun h => Nat.lt_of_not_le fun h2 => by
  rw [Nat.testBit_lt_two_pow (Nat.lt_of_lt_of_le hb (Nat.pow_le_pow_right (n := 2) (i := 24) A2 h2))] at h
  cases h
 constructor
 ·rintro (h | h)
  ·exact .inl h
  ·exact .inr (by simpa using h.1.2.2)
 ·rintro (h | h)
  ·exact .inl h
  ·exact .inr ⟨⟨by omega, by have := h24 h; omega, by simpa using h⟩, h24 h⟩
theorem B6m {l : List Int} {a : Nat} {k : Nat} (h : k < l.length) : (l.take (k + 1)).foldl Im a = Im ((l.take k).foldl Im a) (l.getD k 0) := by
 rw [Ag (d := 0) h, List.foldl_append]; rfl
theorem D0d {l : List Int} {k : Nat} {p : Int → Bool} (h : k < l.length) (hp : p (l.getD k 0) = true) : (l.take (k + 1)).filter p = (l.take k).filter p ++ [l.getD k 0] := by
 rw [Ag (d := 0) h, List.filter_append, List.filter_cons, if_pos hp, List.filter_nil]
theorem D4a {l : List Int} {k : Nat} {p : Int → Bool} (h : k < l.length) (hp : p (l.getD k 0) = false) : (l.take (k + 1)).filter p = (l.take k).filter p := by
 rw [Ag (d := 0) h, List.filter_append, List.filter_cons, if_neg (by rw [hp]; decide), List.filter_nil, List.append_nil]
theorem D3m {s : Nat} : ∀ x, x ∈ A3 s → 0 ≤ x ∧ x < 24 := fun x hx => ⟨(Dz.mp hx).1, (Dz.mp hx).2.1⟩
theorem B9r (s : Nat) : (A3 s).length ≤ 24 := by
 unfold A3 Bx
 rw [List.length_map]
 exact Nat.le_trans (List.length_filter_le _ _) D6
def K3 (c : Cl) (i : Nat) : List Cl := (if c.pos.testBit i then [⟨0, Ed i⟩] else []) ++ if c.neg.testBit i then [⟨Ed i, 0⟩] else []
def Fb (c : Cl) (n : Nat) : List Cl := (List.range n).flatMap (K3 c)
theorem Oj (c : Cl) (n : Nat) : Fb c (n + 1) = Fb c n ++ K3 c n := by
 unfold Fb
 rw [List.range_succ, List.flatMap_append]
 simp
theorem B4e (c : Cl) (i : Nat) : (K3 c i).length ≤ 2 := by
 unfold K3
 split <;> split <;> simp
theorem Uq (c : Cl) : ∀ n, (Fb c n).length ≤ 2 * n
 | 0 => by simp [Fb]
 | n + 1 => by
  rw [Oj, List.length_append]
  have := Uq c n
  have := B4e c n
  omega
theorem B1b {c d : Cl} {n : Nat} : d ∈ Fb c n ↔ ∃ i, i < n ∧ (c.pos.testBit i = true ∧ d = ⟨0, Ed i⟩ ∨ c.neg.testBit i = true ∧ d = ⟨Ed i, 0⟩) := by
 unfold Fb
 rw [List.mem_flatMap]
 constructor
 ·rintro ⟨i, hi, hd⟩
  refine ⟨i, List.mem_range.mp hi, ?_⟩
  unfold K3 at hd
  rcases List.mem_append.mp hd with hd | hd
  ·split at hd
   ·rename_i h; exact .inl ⟨h, by simpa using hd⟩
   ·cases hd
  ·split at hd
   ·rename_i h; exact .inr ⟨h, by simpa using hd⟩
   ·cases hd
 ·rintro ⟨i, hi, h⟩
  refine ⟨i, List.mem_range.mpr hi, ?_⟩
  unfold K3
  rcases h with ⟨h1, rfl⟩ | ⟨h1, rfl⟩
  ·rw [if_pos h1]; exact List.mem_append_left _ List.mem_cons_self
  ·rw [if_pos h1]; exact List.mem_append_right _ List.mem_cons_self
theorem Td (c : Cl) (n : Nat) : (Fb c n).all B3 = true := List.all_eq_true.mpr fun d hd => by
 obtain ⟨i, _, h⟩ := B1b.mp hd
 have := Kf (i : Int)
 rcases h with ⟨_, rfl⟩ | ⟨_, rfl⟩
 ·exact Dn.mpr ⟨by show (0 : Nat) < _; omega, this⟩
 ·exact Dn.mpr ⟨this, by show (0 : Nat) < _; omega⟩
theorem C2h (c : Cl) : (A2w c).all B3 = true := List.all_eq_true.mpr fun d hd => by
 unfold A2w at hd
 rcases List.mem_append.mp hd with hd | hd
 ·obtain ⟨x, _, rfl⟩ := List.mem_map.mp hd
  exact Dn.mpr ⟨by show (0 : Nat) < _; omega, Kf _⟩
 ·obtain ⟨x, _, rfl⟩ := List.mem_map.mp hd
  exact Dn.mpr ⟨Kf _, by show (0 : Nat) < _; omega⟩
theorem D3k {c d : Cl} : d ∈ A2w c ↔ d ∈ Fb c 24 := by
 rw [B1b]
 unfold A2w
 rw [List.mem_append, List.mem_map, List.mem_map]
 constructor
 ·rintro (⟨x, hx, rfl⟩ | ⟨x, hx, rfl⟩)
  ·obtain ⟨h1, h2, h3⟩ := Dz.mp hx
   exact ⟨x.toNat, by omega, .inl ⟨h3, by rw [Int.toNat_of_nonneg h1]⟩⟩
  ·obtain ⟨h1, h2, h3⟩ := Dz.mp hx
   exact ⟨x.toNat, by omega, .inr ⟨h3, by rw [Int.toNat_of_nonneg h1]⟩⟩
 ·rintro ⟨i, hi, ⟨h, rfl⟩ | ⟨h, rfl⟩⟩
  ·exact .inl ⟨i, Dz.mpr ⟨by omega, by omega, by rw [Int.toNat_natCast]; exact h⟩, rfl⟩
  ·exact .inr ⟨i, Dz.mpr ⟨by omega, by omega, by rw [Int.toNat_natCast]; exact h⟩, rfl⟩
theorem Z9 (c : Cl) : B2 (Fb c 24) = Pl c :=
 B6c (fun _ _ => True) (Td c 24) (C2h c) (fun _ _ => trivial) (fun _ _ => trivial) fun P N _ => by
  unfold sat
  exact exists_congr fun d => and_congr_left fun _ => D3k.symm
theorem V5 (c : Cl) : (Pl c).1 = 0 := by
 rw [← Z9]
 exact B1u (Td c 24) (by have := Uq c 24; omega)
theorem D1u {i : Nat} (h : i < 24) : Hb [(i : Int)] = Ed i := by
 unfold Ed
 rw [if_pos A2]
 simp [Hb]
def F1 (f g : List Cl) (i : Nat) : List Cl := Io (f.take i) g
theorem A4t {f g : List Cl} {i : Nat} (h : i < f.length) : F1 f g (i + 1) = F1 f g i ++ g.map (Du (f.getD i B1)) := by
 unfold F1 Io
 rw [Ag (d := B1) h, List.flatMap_append]
 simp
theorem B1c {f g : List Cl} : ∀ i, (F1 f g i).length ≤ i * g.length
 | 0 => by simp [F1, Io]
 | i + 1 => by
  have := B1c (f := f) (g := g) i
  by_cases h : i < f.length
  ·rw [A4t h, List.length_append, List.length_map, Nat.add_mul, Nat.one_mul]; omega
  ·have e : F1 f g (i + 1) = F1 f g i := by unfold F1; rw [List.take_of_length_le A2, List.take_of_length_le A2]
   rw [e, Nat.add_mul]; omega
def H5 (f g : List Cl) : EL := if (A9 f && A9 g) = false then (2, []) else Lv f g
def K9 (f g : List Cl) (i k : Nat) : List Cl := F1 f g i ++ (g.take k).map (Du (f.getD i B1))
theorem Kz (f g : List Cl) (i : Nat) : K9 f g i 0 = F1 f g i := by simp [K9]
theorem A0j {f g : List Cl} {i k : Nat} (h : k < g.length) : K9 f g i (k + 1) = K9 f g i k ++ [Du (f.getD i B1) (g.getD k B1)] := by
 unfold K9
 rw [Ag (d := B1) h, List.map_append, List.append_assoc]
 rfl
theorem A4v {f g : List Cl} {i : Nat} (h : i < f.length) : F1 f g (i + 1) = K9 f g i g.length := by
 rw [A4t h]; unfold K9; rw [List.take_length]
theorem Rz {f g : List Cl} {i k : Nat} (hi : i ≤ f.length) (hf : f.length ≤ 64) (hg : g.length ≤ 64) : (K9 f g i k).length ≤ 5000 := by
 have h1 := B1c (f := f) (g := g) i
 have h2 : i * g.length ≤ 64 * 64 := Nat.mul_le_mul A2 hg
 unfold K9
 rw [List.length_append, List.length_map, List.length_take]
 omega
theorem A0i (f g : List Cl) : F1 f g f.length = Io f g := by unfold F1; rw [List.take_length]
theorem Ve {f g : List Cl} {i : Nat} (hf : f.all B3 = true) (hg : g.all B3 = true) : (F1 f g i).all B3 = true :=
 A6d (List.all_eq_true.mpr fun c hc => List.all_eq_true.mp hf c (List.mem_of_mem_take hc)) hg
def Jm (f g : List Cl) : EL := if (A9 f && A9 g) = false then (2, []) else Le f g
theorem D8f (c : Cl) : A9 (Pl c).2 = true := X3 (V5 c)
theorem C8q {h : List Cl} {c : Cl} (hr : A9 h = true) : H5 h (Pl c).2 = D7 h c := by
 unfold H5 D7
 rw [if_neg (by simp [hr, D8f]), C4 (V5 c)]
theorem B5x {f g : List Cl} (h : (Lv f g).1 ≠ 0) : (Lv f g).2 = [] := B1v h
def X0 (f : List Cl) (i : Nat) (h : List Cl) (e : Int) : Prop := (e = 0 ∧ Sd f = Cu D7 h (f.drop i) ∧ A9 h = true) ∨ (e ≠ 0 ∧ Sd f = (e, h))
theorem C8o (f : List Cl) : X0 f 0 [⟨0, 0⟩] 0 := .inl ⟨rfl, rfl, by decide⟩
theorem C8n {f h : List Cl} {i : Nat} (hi : i < f.length) (hv : X0 f i h 0) : X0 f (i + 1) (H5 h (Pl (f.getD i B1)).2).2 (H5 h (Pl (f.getD i B1)).2).1 := by
 rcases hv with ⟨_, h1, h2⟩ | ⟨h1, _⟩
 ·rw [C8q h2]
  rw [Xc B1 hi, Cu] at h1
  by_cases h0 : (D7 h (f.getD i B1)).1 = 0
  ·rw [C4 h0] at h1
   refine .inl ⟨h0, h1, ?_⟩
   unfold D7 at h0 ⊢
   rw [C4 (V5 _)] at h0 ⊢
   exact X3 h0
  ·rw [Bp h0] at h1
   refine .inr ⟨h0, ?_⟩
   have : (D7 h (f.getD i B1)).2 = [] := by
    unfold D7 at h0 ⊢
    rw [C4 (V5 _)] at h0 ⊢
    exact B5x h0
   rw [h1, this]
 ·exact absurd rfl h1
theorem D3j {f h : List Cl} {i : Nat} {e : Int} (hv : X0 f i h e) (hi : e = 0 → f.length ≤ i) : Sd f = (e, h) := by
 rcases hv with ⟨h0, h1, _⟩ | ⟨_, h1⟩
 ·rw [h1, List.drop_eq_nil_of_le (hi h0), h0]; rfl
 ·exact h1
theorem B9c {f : List Cl} (h : A9 f = true) : U6 f = B2 (Fc f) := by
 unfold U6
 rw [if_pos h, Wv (Ja h)]
theorem C7w {f : List Cl} (h : A9 f = false) : U6 f = (2, []) := by
 unfold U6
 rw [if_neg (by simp [h])]
theorem B5u {f : List Cl} (h : (Gv f).1 = 0) : A9 (Gv f).2 = true := by
 unfold Gv at h ⊢
 split at h
 ·rename_i h1
  rw [if_pos h1]
  exact B5v h
 ·cases h
theorem C1a {f : List Cl} (h : (Gv f).1 = 0) : Fl f = B2 (Fc (Gv f).2) := by
 unfold Fl
 rw [C4 h, B9c (B5u h)]
theorem C4u {f : List Cl} (h : (Gv f).1 ≠ 0) : Fl f = ((Gv f).1, []) := Bp h
def Ds (f g : List Cl) : EL := if (A7 f && A7 g) = false then (2, []) else B2 (Fc (Io f g))
theorem B7d {f g : List Cl} : F8 (Io f g) = f.flatMap fun a => F8 (g.map fun b => Du a b) := by
 unfold F8 Io
 rw [List.filter_flatMap]
theorem Ny {f g : List Cl} (h : A7 f = true) (h2 : A7 g = true) : Ds f g = Qa f g := by
 unfold Ds Qa
 rw [if_neg (by simp [h, h2]), Wv (A6d (Ja (Eu h).1) (Ja (Eu h2).1)), B7d]
def pE (x : EL) : Prop := 0 ≤ x.1 ∧ x.1 ≤ 10
theorem C7j (l : List Cl) : pE ((0, l) : EL) := ⟨Int.le_refl 0, by show (0 : Int) ≤ 10; omega⟩
theorem Tq (l : List Cl) : pE ((2, l) : EL) := ⟨by show (0 : Int) ≤ 2; omega, by show (2 : Int) ≤ 10; omega⟩
theorem Mn (l : List Cl) : pE (B2 l) := by rcases Kb l with h | h | h <;> exact ⟨by omega, by omega⟩
theorem Pk {x : EL} {k : List Cl → EL} (hx : pE x) (hk : ∀ g, pE (k g)) : pE (Hh x k) := by
 unfold Hh
 split
 ·exact ⟨hx.1, hx.2⟩
 ·exact hk _
theorem A7o {g : List Cl → Cl → EL} (hg : ∀ h c, pE (g h c)) : ∀ {l h : List Cl}, pE (Cu g h l)
 | [], h => C7j h
 | c :: cs, h => by rw [Cu]; exact Pk (hg h c) fun h' => A7o hg
theorem B8w (f : List Cl) : pE (Sd f) := A7o fun h c => Pk (Mn _) fun o => Mn _
theorem C7k (f : List Cl) : pE (U6 f) := by
 unfold U6
 split
 ·exact Mn _
 ·exact Tq _
theorem C2f (f : List Cl) : pE (Fl f) := Pk (by
 unfold Gv
 split
 ·exact B8w _
 ·exact Tq _) C7k
section
variable {i d k n : Int} {nm : ByteArray} {r f : List Cl} {x : EL}
end
def B2w (x : Int × T) : T := if x.1 = 0 then x.2 else Qf x.1
def Qi (k : Int) (r : List Cl) (ks : List T) : T := .mk k 0 ⟨#[]⟩ r ks []
abbrev kd (t : T) (i : Nat) : T := t.kids.getD i t0
theorem C5n (t : T) : 0 ≤ sized t := by
 unfold sized
 split
 ·decide
 ·split <;> decide
theorem C3q (t : T) : 0 ≤ An t := by
 unfold An
 split
 ·exact C5n t
 ·split <;> decide
abbrev Ev := List T × List (List Cl)
def Xy (p neg : Bool) (f : List Cl) : EL := if p = true then (if neg = true then Fl f else U6 f) else if neg = true then Gv f else (0, f)
def J9 (p : Bool) (g h : List Cl) : EL := if p = true then Ds g h else H5 g h
def Qg (p : Bool) (g h : List Cl) : EL := if p = true then Jn g h else Jm g h
def Cz (p neg : Bool) (D : List (List Cl)) : List Int → List Cl → EL
 | [], g => (0, g)
 | i :: l, g => Hh (Xy p neg (D.getD i.toNat [])) fun h => Hh (J9 p g h) fun g => Cz p neg D l g
def N1 (p : Bool) (D : List (List Cl)) (c : Cl) : EL := Hh (Cz p false D (A3 c.pos) [B1]) fun g => Cz p true D (A3 c.neg) g
def Fu (p : Bool) (D : List (List Cl)) (h : List Cl) (c : Cl) : EL := Hh (N1 p D c) fun g => Qg p h g
def Fv (p : Bool) (D : List (List Cl)) (f : List Cl) : EL := Cu (Fu p D) [] f
theorem Yw {p neg : Bool} {D : List (List Cl)} : ∀ {l m : List Int} {g g' : List Cl}, Cz p neg D l g = (0, g') → Cz p neg D (l ++ m) g = Cz p neg D m g'
 | [], m, g, g', h => by
  rw [Cz, Prod.mk.injEq] at h
  rw [List.nil_append, h.2]
 | i :: l, m, g, g', h => by
  rw [Cz] at h
  rw [List.cons_append, Cz]
  by_cases h1 : (Xy p neg (D.getD i.toNat [])).1 = 0
  ·rw [C4 h1] at h ⊢
   by_cases h2 : (J9 p g (Xy p neg (D.getD i.toNat [])).2).1 = 0
   ·rw [C4 h2] at h ⊢
    exact Yw h
   ·rw [Bp h2, Prod.mk.injEq] at h
    exact absurd h.1 h2
  ·rw [Bp h1, Prod.mk.injEq] at h
   exact absurd h.1 h1
theorem D3n {p neg : Bool} {D : List (List Cl)} {l : List Int} {g g' : List Cl} {k : Nat} (hk : k < l.length) (h : Cz p neg D (l.take k) g = (0, g')) (h1 : (Xy p neg (D.getD (l.getD k 0).toNat [])).1 = 0) (h2 : (J9 p g' (Xy p neg (D.getD (l.getD k 0).toNat [])).2).1 = 0) :
  Cz p neg D (l.take (k + 1)) g = (0, (J9 p g' (Xy p neg (D.getD (l.getD k 0).toNat [])).2).2) := by
 rw [Ag (d := 0) hk, Yw h, Cz, C4 h1, C4 h2, Cz]
theorem C3b {p neg : Bool} {D : List (List Cl)} {l : List Int} {g g' : List Cl} {k : Nat} (hk : k < l.length) (h : Cz p neg D (l.take k) g = (0, g')) (h1 : (Xy p neg (D.getD (l.getD k 0).toNat [])).1 ≠ 0) : Cz p neg D l g = ((Xy p neg (D.getD (l.getD k 0).toNat [])).1, []) := by
 have e2 : l = l.take k ++ l.getD k 0 :: l.drop (k + 1) := by rw [D0 (d := 0) hk, List.getElem_cons_drop, List.take_append_drop]
 rw [e2, Yw h, ← e2, Cz, Bp h1]
theorem C3a {p neg : Bool} {D : List (List Cl)} {l : List Int} {g g' : List Cl} {k : Nat} (hk : k < l.length) (h : Cz p neg D (l.take k) g = (0, g')) (h1 : (Xy p neg (D.getD (l.getD k 0).toNat [])).1 = 0) (h2 : (J9 p g' (Xy p neg (D.getD (l.getD k 0).toNat [])).2).1 ≠ 0) : Cz p neg D l g = ((J9 p g' (Xy p neg (D.getD (l.getD k 0).toNat [])).2).1, []) := by
 have e2 : l = l.take k ++ l.getD k 0 :: l.drop (k + 1) := by rw [D0 (d := 0) hk, List.getElem_cons_drop, List.take_append_drop]
 rw [e2, Yw h, ← e2, Cz, C4 h1, Bp h2]
theorem Oy {p neg : Bool} {D : List (List Cl)} {l : List Int} {g g' : List Cl} {k : Nat} (hk : k = l.length) (h : Cz p neg D (l.take k) g = (0, g')) : Cz p neg D l g = (0, g') := by
 rw [hk, List.take_length] at h
 exact h
def Hg {α β : Type} (g : α → Int × β) : List α → Int × List β
 | [] => (0, [])
 | a :: l => if (g a).1 ≠ 0 then ((g a).1, []) else if (Hg g l).1 ≠ 0 then ((Hg g l).1, []) else (0, (g a).2 :: (Hg g l).2)
theorem B9q {α β : Type} {g : α → Int × β} : ∀ {l : List α}, (∀ a, a ∈ l → (g a).1 = 0) → Hg g l = (0, l.map fun a => (g a).2)
 | [], _ => rfl
 | a :: l, h => by
  have h0 := h a List.mem_cons_self
  have ih := B9q (g := g) (l := l) fun b hb => h b (List.mem_cons_of_mem _ hb)
  rw [Hg, if_neg (by simp [h0]), ih, if_neg D6]
  rfl
theorem B1l {α β : Type} {g : α → Int × β} {d : α} : ∀ {l : List α} {i : Nat}, i < l.length → (∀ j, j < i → (g (l.getD j d)).1 = 0) → (g (l.getD i d)).1 ≠ 0 → Hg g l = ((g (l.getD i d)).1, [])
 | [], i, h, _, _ => absurd h D6
 | a :: l, 0, h, _, h2 => by
  rw [List.getD_cons_zero] at h2 ⊢
  rw [Hg, if_pos h2]
 | a :: l, i + 1, h, h1, h2 => by
  have h0 := h1 0 A2
  rw [List.getD_cons_zero] at h0
  rw [List.getD_cons_succ] at h2 ⊢
  have ih := B1l (g := g) (d := d) (l := l) (i := i) (by simpa using h) (fun j hj => by have := h1 (j + 1) A2; rwa [List.getD_cons_succ] at this) h2
  rw [Hg, if_neg (by simp [h0]), ih, if_pos h2]
def Yn {α : Type} (x : Int × α) : Ax α := if x.1 = 0 then .ok x.2 else .bad x.1
def Ym (e : Ev) : Ax Ev := (Yn (Hg (fun t => Bd t 0 1) e.1)).bind fun l => .ok (.mk 1 0 ⟨#[]⟩ [] [] [] :: l, e.2)
def W5 (e : Ev) : Ax Ev := (Yn (Hg (fun f => Ab f 0 1) e.2)).bind fun D => (Yn (Hg (fun t => Bc t 0 1) e.1)).bind fun l => .ok (l, [⟨1, 0⟩] :: D)
def Is (e : Ev) (b : Int × Int) : Ax Ev := if b.1 = 1 then Ym e else if b.2 = 1 then W5 e else .ok e
def Cc : Tr Ev where
 own e k n nm r := if k = 1 then .ok (.inl (e.1.getD n.toNat t0)) else (elR (Fv (decide (k = 14)) e.2 r)).bind fun g => .ok (.inr (0, g))
 B9 e f := (elR (Fv true e.2 f)).bind fun g => .ok (if g.length = 0 then none else some g)
 Li e b := Is e b
def Eb (e : Ev) : Bool := decide (e.1.length ≤ 200) && decide (e.2.length ≤ 24)
def Ci (e : Ev) : Bool := e.2.all fun f => A9 f
def Ju (f : List Cl) (d : Nat) : Bool := decide (C2 f / 2 ^ d = 0)
def D0m (e : Ev) (v d : Int) : Int :=
 if (decide (v < 0) || decide (d < 0) || decide (24 < d) || !Eb e || !Ci e || !(e.2.all fun f => Ju f d.toNat)) = true then 2
 else (Hg (fun t => (D4 t v d, ())) e.1).1
def idE (v d : Int) : Int × Ev := if v < 0 ∨ 200 < v ∨ d < 0 ∨ 24 < d then (2, [], []) else (0, (List.range v.toNat).map (fun (n : Nat) => (T.mk 1 (n : Int) ⟨#[]⟩ [] [] [])), (List.range d.toNat).map fun (i : Nat) => [⟨Ed (i : Int), 0⟩])
def B6 (f : List Cl) (e : Ev) : EL := if (A9 f && Eb e && Ju f e.2.length && Ci e) = true then Fv false e.2 f else (2, [])
def A8 (t : T) (e : Ev) : Int × T :=
 if Eb e = false then (2, t0)
 else if D4 t e.1.length e.2.length ≠ 0 then (D4 t e.1.length e.2.length, t0)
 else if (Ci e && e.1.all fun x => decide (An x = 0)) = false then (2, t0)
 else match C7 Cc t e with
  | .bad x => (x, t0)
  | .ok u => if An u ≠ 0 then (An u, t0) else (0, u)
def Iy (e f : Ev) : Int × Ev :=
 if (Hg (fun g => B6 g f) e.2).1 ≠ 0 then ((Hg (fun g => B6 g f) e.2).1, [], [])
 else if (Hg (fun t => A8 t f) e.1).1 ≠ 0 then ((Hg (fun t => A8 t f) e.1).1, [], [])
 else (0, (Hg (fun t => A8 t f) e.1).2, (Hg (fun g => B6 g f) e.2).2)
def A7f (p : Bool) (g : List Cl) : Prop := if p = true then A7 g = true else A9 g = true
theorem C1s {p : Bool} {g : List Cl} (h : A7f p g) : A9 g = true := by
 unfold A7f at h
 split at h
 ·exact (Eu h).1
 ·exact h
theorem Tb {f : List Cl} {d : Nat} (hd : d ≤ 24) (hf : f.all B3 = true) (h : within f d = true) : ∀ c, c ∈ f → ∀ j, (c.pos ||| c.neg).testBit j = true → j < d := fun c hc j hj => by
 refine Decidable.byContradiction fun hn => ?_
 have h24 : j < 24 := by
  obtain ⟨r1, r2⟩ := A7h (List.all_eq_true.mp hf c hc)
  rw [Nat.testBit_or, Bool.or_eq_true] at hj
  rcases hj with hj | hj
  ·exact r1 j hj
  ·exact r2 j hj
 have h1 := (within_iff (l := f) (d := d) A2).mp h j A2
 rw [A5k.mpr ⟨h24, c, hc, hj⟩] at h1
 cases h1
theorem C4h (k i : Int) : ((binds k i).1 = 0 ∨ (binds k i).1 = 1) ∧ ((binds k i).2 = 0 ∨ (binds k i).2 = 1) ∧ ¬ ((binds k i).1 = 1 ∧ (binds k i).2 = 1) := by
 unfold binds
 (repeat' split) <;> simp
variable {S : Nat → Prop}
theorem S1 {α β : Type} {g : α → Int × β} : ∀ {l : List α}, (Hg g l).1 = 0 → (∀ a, a ∈ l → (g a).1 = 0) ∧ (Hg g l).2 = l.map fun a => (g a).2
 | [], _ => ⟨fun t ht => (by cases ht), rfl⟩
 | t :: ts, h => by
  rw [Hg] at h ⊢
  by_cases h1 : (g t).1 ≠ 0
  ·rw [if_pos h1] at h; exact absurd h h1
  ·rw [if_neg h1] at h ⊢
   by_cases h2 : (Hg g ts).1 ≠ 0
   ·rw [if_pos h2] at h; exact absurd h h2
   ·rw [if_neg h2]
    obtain ⟨a1, a2⟩ := S1 (Decidable.not_not.mp h2)
    refine ⟨fun u hu => ?_, by rw [a2]; rfl⟩
    rcases List.mem_cons.mp hu with rfl | hu
    ·exact Decidable.not_not.mp h1
    ·exact a1 u hu
theorem A1a {t : T} {ns : List Int} {r : Ax T} (h : (Bt t ns r).1 = 0) : An t = 0 ∧ (r = .ok (Bt t ns r).2 ∨ r = .bad 0) := by
 unfold Bt at h ⊢
 split at h
 ·rename_i h1; exact absurd h h1
 ·rename_i h1
  split at h
  ·cases h
  ·rename_i h2
   rw [if_neg h1, if_neg h2]
   refine ⟨Decidable.not_not.mp h1, ?_⟩
   cases r with
   | ok u => exact .inl rfl
   | bad e => right; simp only at h; subst h; rfl
theorem C1b {x : T} (h : (Bd x 0 1).1 = 0) : C7 (Bh 1 0) x (0, 0) = .ok (Bd x 0 1).2 := by
 obtain ⟨h1, h2 | h2⟩ := A1a h
 ·exact h2
 ·have := M0 x h2; omega
theorem C3w {x : T} (h : (Bc x 0 1).1 = 0) : C7 (Bh 0 1) x (0, 0) = .ok (Bc x 0 1).2 := by
 obtain ⟨h1, h2 | h2⟩ := A1a h
 ·exact h2
 ·have := M0 x h2; omega
theorem Wr {α : Type} {x : Int × α} {a : α} (h : Yn x = .ok a) : x.1 = 0 ∧ x.2 = a := by
 unfold Yn at h
 split at h
 ·rename_i h1; injection h with h; exact ⟨h1, h⟩
 ·cases h
theorem R1 {α : Type} {x : Int × α} {e : Int} (h : Yn x = .bad e) : e ≠ 0 := by
 unfold Yn at h
 split at h
 ·cases h
 ·rename_i h1; injection h with h; exact h ▸ h1
theorem U1 {e : Ev} {b : Int × Int} {x : Int} (h : Is e b = .bad x) : x ≠ 0 := by
 unfold Is at h
 split at h
 ·unfold Ym at h
  rcases B8 h with h | ⟨_, _, h⟩
  ·exact R1 h
  ·cases h
 ·split at h
  ·unfold W5 at h
   rcases B8 h with h | ⟨_, _, h⟩
   ·exact R1 h
   ·rcases B8 h with h | ⟨_, _, h⟩
    ·exact R1 h
    ·cases h
  ·cases h
theorem Pv : ∀ (t : T) {e : Ev} {x : Int}, C7 Cc t e = .bad x → x ≠ 0 := T.ind fun t ih e x h => by
 rcases Qv h with h1 | ⟨b, _, h1⟩ | ⟨p, hp, h1 | ⟨c', _, h2⟩⟩
 ·simp only [Cc] at h1
  split at h1
  ·cases h1
  ·rcases B8 h1 with h1 | ⟨_, _, h1⟩
   ·exact (No.mp h1).2
   ·cases h1
 ·simp only [Cc] at h1
  rcases B8 h1 with h1 | ⟨_, _, h1⟩
  ·exact (No.mp h1).2
  ·cases h1
 ·exact U1 h1
 ·exact ih p hp h2
abbrev bnd (b : Int × Int) : Prop := (b.1 = 0 ∨ b.1 = 1) ∧ (b.2 = 0 ∨ b.2 = 1) ∧ ¬ (b.1 = 1 ∧ b.2 = 1)
theorem B3g (k : Int) : bnd (0, more k) := ⟨.inl rfl, by have := Ry k; show more k = 0 ∨ more k = 1; omega, fun h => by cases h.1⟩
section
variable {CA CB CC CD : Type} {A : Tr CA} {B : Tr CB} {C : Tr CC} {D : Tr CD} (nv mv : Bool) (R : CA → CB → CC → CD → Int → Int → Prop)
variable {nv mv R}
end
theorem C3p {α β : Type} (g : α → β) {l : List α} {i : Nat} (h : i < l.length) (d : α) (d' : β) : (l.map g).getD i d' = g (l.getD i d) := by
 rw [D0 (d := d') (by simpa using h), D0 (d := d) h, List.getElem_map]
theorem A3j {e e' : Ev} (h : Ym e = .ok e') : e' = (vE 0 :: e.1.map (fun t => (Bd t 0 1).2), e.2) ∧ ∀ t, t ∈ e.1 → C7 (Bh 1 0) t (0, 0) = .ok (Bd t 0 1).2 := by
 unfold Ym at h
 obtain ⟨l, h3, h4⟩ := Ax.Ac h
 injection h4 with h4
 obtain ⟨h5, h6⟩ := Wr h3
 obtain ⟨h7, h8⟩ := S1 h5
 rw [h8] at h6
 subst h6
 exact ⟨h4.symm, fun t ht => C1b (h7 t ht)⟩
theorem A5v {e e' : Ev} (h : W5 e = .ok e') : e' = (e.1.map (fun t => (Bc t 0 1).2), [⟨1, 0⟩] :: e.2.map (fun f => (Ab f 0 1).2)) ∧ (∀ t, t ∈ e.1 → C7 (Bh 0 1) t (0, 0) = .ok (Bc t 0 1).2) ∧ ∀ f, f ∈ e.2 → C0 1 f 0 = .ok (Ab f 0 1).2 := by
 unfold W5 at h
 obtain ⟨D, h3, h4⟩ := Ax.Ac h
 obtain ⟨l, h5, h6⟩ := Ax.Ac h4
 injection h6 with h6
 obtain ⟨a1, a2⟩ := Wr h3
 obtain ⟨a3, a4⟩ := S1 a1
 rw [a4] at a2
 subst a2
 obtain ⟨b1, b2⟩ := Wr h5
 obtain ⟨b3, b4⟩ := S1 b1
 rw [b4] at b2
 subst b2
 refine ⟨h6.symm, fun t ht => C3w (b3 t ht), fun f hf => ?_⟩
 have h9 := a3 f hf
 rw [K6 (A1c h9).1 A2 A2, if_pos h9]
theorem C0e {t : T} {e : Ev} (hk : t.kind = 1) : C7 Cc t e = .ok (e.1.getD t.n.toNat t0) := by
 rw [Ft]
 have : Cc.own e t.kind t.n t.name t.r = .ok (.inl (e.1.getD t.n.toNat t0)) := by
  simp only [Cc]
  rw [if_pos hk]
 rw [this]
 rfl
theorem C2k (f : List Cl) : Ts (Gv f) := by
 unfold Gv
 split
 ·exact B9b f
 ·exact Df
theorem V8 {p neg : Bool} {f : List Cl} (h : Ar f) : Ts (Xy p neg f) := by
 unfold Xy
 split
 ·split
  ·exact B5r f
  ·exact C7s h
 ·split
  ·exact C2k f
  ·exact h
theorem B0s {p : Bool} {g k : List Cl} (hg : Ar g) (hk : Ar k) : Ts (J9 p g k) := by
 unfold J9
 split
 ·by_cases h : (A7 g && A7 k) = false
  ·unfold Ds; rw [if_pos h]; exact Df
  ·have h2 : A7 g = true ∧ A7 k = true := by simpa using h
   rw [Ny h2.1 h2.2]
   exact C2l hg hk
 ·unfold H5
  split
  ·exact Df
  ·exact B0t hg hk
theorem C7t {p : Bool} {g k : List Cl} (hg : Ar g) (hk : Ar k) : Ts (Qg p g k) := by
 unfold Qg
 split
 ·unfold Jn
  split
  ·exact Df
  ·exact B0u hg hk
 ·unfold Jm
  split
  ·exact Df
  ·exact B0u hg hk
theorem C8z (p : Bool) (g k : List Cl) : (J9 p g k).2.length ≤ 64 := by
 unfold J9
 split
 ·unfold Ds
  split
  ·show ([] : List Cl).length ≤ 64; simp
  ·exact Ma _
 ·unfold H5
  split
  ·show ([] : List Cl).length ≤ 64; simp
  ·exact Ma _
theorem C9a (p : Bool) (g k : List Cl) : (Qg p g k).2.length ≤ 64 := by
 unfold Qg
 split
 ·unfold Jn
  split
  ·show ([] : List Cl).length ≤ 64; simp
  ·exact Ma _
 ·unfold Jm
  split
  ·show ([] : List Cl).length ≤ 64; simp
  ·exact Ma _
theorem A4z {x : EL} {k : List Cl → EL} {n : Nat} (h : ∀ g, (k g).2.length ≤ n) : (Hh x k).2.length ≤ n := by
 by_cases h0 : x.1 = 0
 ·rw [C4 h0]; exact h _
 ·rw [Bp h0]; exact Nat.zero_le _
theorem M8 {x : EL} {k : List Cl → EL} (h : Ts x) (hk : ∀ g, Ar g → Ts (k g)) : Ts (Hh x k) := by
 by_cases h0 : x.1 = 0
 ·rw [C4 h0]; exact hk _ h
 ·rw [Bp h0]; exact Df
def Dp (p neg : Bool) (f g : List Cl) : EL := Hh (Xy p neg f) fun h => J9 p g h
theorem Jj {p neg : Bool} {f g : List Cl} (hf : Ar f) (hg : Ar g) : Ts (Dp p neg f g) := M8 (V8 hf) fun _ h => B0s hg h
theorem Cv {l : List CP} {j : Nat} (h : j < l.length) : (l.map (·.1)).getD j [] = (l.getD j C1).1 := C3p _ h C1 []
theorem L0 {p neg : Bool} {D : List (List Cl)} {f : List Cl} {l : List Int} {z hv : List Cl} {k j : Nat} (hk : k < l.length) (h : Cz p neg D (l.take k) z = (0, hv)) (hj : l.getD k 0 = (j : Int)) (hD : D.getD j [] = f) (h0 : (Dp p neg f hv).1 = 0) : Cz p neg D (l.take (k + 1)) z = (0, (Dp p neg f hv).2) := by
 unfold Dp at h0 ⊢
 obtain ⟨h1, h2, e⟩ := A1z h0
 have e1 : D.getD (l.getD k 0).toNat [] = f := by rw [hj, Int.toNat_natCast]; exact hD
 rw [D3n hk h (by rw [e1]; exact h1) (by rw [e1]; exact h2), e1, e]
theorem H6 {p neg : Bool} {D : List (List Cl)} {f : List Cl} {l : List Int} {z hv : List Cl} {k j : Nat} (hk : k < l.length) (h : Cz p neg D (l.take k) z = (0, hv)) (hj : l.getD k 0 = (j : Int)) (hD : D.getD j [] = f) (h0 : (Dp p neg f hv).1 ≠ 0) : Cz p neg D l z = ((Dp p neg f hv).1, []) := by
 unfold Dp at h0 ⊢
 have e1 : D.getD (l.getD k 0).toNat [] = f := by rw [hj, Int.toNat_natCast]; exact hD
 by_cases h1 : (Xy p neg f).1 = 0
 ·rw [C4 h1] at h0 ⊢
  rw [C3a hk h (by rw [e1]; exact h1) (by rw [e1]; exact h0), e1]
 ·rw [Bp h1] at h0 ⊢
  rw [C3b hk h (by rw [e1]; exact h1), e1]
theorem Mo {p neg : Bool} {D : List (List Cl)} (hD : ∀ j, Ar (D.getD j [])) : ∀ {l : List Int} {g : List Cl}, Ar g → Ts (Cz p neg D l g)
 | [], g, hg => hg
 | i :: l, g, hg => by
  rw [Cz]
  exact M8 (V8 (hD _)) fun h hh => M8 (B0s hg hh) fun g hg => Mo hD hg
theorem R9 {p neg : Bool} {D : List (List Cl)} : ∀ {l : List Int} {g : List Cl}, g.length ≤ 64 → (Cz p neg D l g).2.length ≤ 64
 | [], g, hg => hg
 | i :: l, g, hg => by
  rw [Cz]
  refine A4z fun h => ?_
  by_cases h0 : (J9 p g h).1 = 0
  ·rw [C4 h0]; exact R9 (C8z _ _ _)
  ·rw [Bp h0]; exact Nat.zero_le _
theorem C7u {p : Bool} {D : List (List Cl)} {c : Cl} (hD : ∀ j, Ar (D.getD j [])) : Ts (N1 p D c) := M8 (Mo hD Kt) fun _ hg => Mo hD hg
theorem Zy {p : Bool} {D : List (List Cl)} {c : Cl} {h : List Cl} (hD : ∀ j, Ar (D.getD j [])) (hh : Ar h) : Ts (Fu p D h c) := M8 (C7u hD) fun _ hg => C7t hh hg
theorem B1s (p : Bool) (D : List (List Cl)) (h : List Cl) (c : Cl) : (Fu p D h c).2.length ≤ 64 := A4z fun _ => C9a _ _ _
theorem C3s {g : List Cl → Cl → EL} {m : List Cl} (hg : ∀ h c, Ar h → Ts (g h c)) : ∀ {h : List Cl}, Ar h → Ts (Cu g h m) := by
 induction m with
 | nil => intro h hh; exact hh
 | cons c m ih =>
  intro h hh
  rw [Cu]
  exact M8 (hg h c hh) fun _ h2 => ih h2
theorem Zz {p : Bool} {D : List (List Cl)} {f : List Cl} (hD : ∀ j, Ar (D.getD j [])) : Ts (Fv p D f) := C3s (fun h c hh => Zy hD hh) Df
theorem Rj {l : List CP} (h : ∀ j, j < l.length → Ar (l.getD j C1).1) (j : Nat) : Ar ((l.map (·.1)).getD j []) := by
 by_cases hj : j < l.length
 ·rw [Cv hj]; exact h j hj
 ·rw [List.getD_eq_getElem?_getD, List.getElem?_eq_none (by simpa using hj)]
  exact Df
theorem Spec.Rf {P : Program} {k : FuncId} {args : Array Value} {pre : List Fact} {Ms0 : List Bm} {r r' : EL} (he : r' = r) (h : Spec P k args pre Ms0 (fun x : SH => .tuple #[sl x r.2.length, .int .i64 r.1]) (fun x => [CL r.2 x]) (fun _ => [])) : Spec P k args pre Ms0 (fun x : SH => .tuple #[sl x r'.2.length, .int .i64 r'.1]) (fun x => [CL r'.2 x]) (fun _ => []) := by
 subst he
 exact h
def B4 {α β : Type} (g : α → Int × β) (z : List β) (l : List α) : Int × List β := if (Hg g l).1 ≠ 0 then ((Hg g l).1, []) else (0, z ++ (Hg g l).2)
theorem Hm {α β : Type} {g : α → Int × β} {z : List β} {l : List α} (h : ∀ a, a ∈ l → (g a).1 = 0) : B4 g z l = (0, z ++ l.map fun a => (g a).2) := by
 unfold B4
 rw [B9q h, if_neg D6]
theorem Hl {α β : Type} {g : α → Int × β} {z : List β} {d : α} {l : List α} {i : Nat} (hi : i < l.length) (h : ∀ j, j < i → (g (l.getD j d)).1 = 0) (h2 : (g (l.getD i d)).1 ≠ 0) : B4 g z l = ((g (l.getD i d)).1, []) := by
 unfold B4
 rw [B1l hi h h2, if_pos h2]
theorem O3 {α β : Type} {g : α → Int × β} {d : α} {l : List α} {i : Nat} (hi : i = l.length) (h : ∀ j, j < i → (g (l.getD j d)).1 = 0) : ∀ a, a ∈ l → (g a).1 = 0 := fun a ha => by
 obtain ⟨j, hj, rfl⟩ := List.mem_iff_getElem.mp ha
 rw [← D0 (d := d) hj]
 exact h j A2
theorem Iz {α β : Type} {f : α → β} {d : α} {l : List α} {k : Nat} (h : k < l.length) : (l.take (k + 1)).map f = (l.take k).map f ++ [f (l.getD k d)] := by rw [Ag (d := d) h, List.map_append]; rfl
def Lu (r : Ax Ev) (c : Int) (e : Ev) : Prop := (c = 0 → r = .ok e) ∧ (c ≠ 0 → r = .bad c)
theorem Z4 (ts : List T) (D : List (List Cl)) : Lu (Ym (ts, D)) (B4 (fun t => Bd t 0 1) [vE 0] ts).1 ((B4 (fun t => Bd t 0 1) [vE 0] ts).2, D) := by
 unfold B4 Ym Lu Yn
 by_cases h : (Hg (fun t => Bd t 0 1) ts).1 ≠ 0
 ·rw [if_pos h]
  refine ⟨fun h0 => absurd h0 h, fun _ => ?_⟩
  rw [if_neg h]; rfl
 ·rw [if_neg h]
  refine ⟨fun _ => ?_, fun h0 => absurd rfl h0⟩
  rw [if_pos (Decidable.not_not.mp h)]; rfl
theorem A5u {ts : List T} {D : List (List Cl)} (h : (B4 (fun f => Ab f 0 1) [[⟨1, 0⟩]] D).1 ≠ 0) : W5 (ts, D) = .bad (B4 (fun f => Ab f 0 1) [[⟨1, 0⟩]] D).1 := by
 unfold B4 at h ⊢
 unfold W5 Yn
 by_cases h1 : (Hg (fun f => Ab f 0 1) D).1 ≠ 0
 ·rw [if_pos h1, if_neg h1]; rfl
 ·rw [if_neg h1] at h; exact absurd rfl h
theorem Xd {ts : List T} {D : List (List Cl)} (h : (B4 (fun f => Ab f 0 1) [[⟨1, 0⟩]] D).1 = 0) : Lu (W5 (ts, D)) (B4 (fun t => Bc t 0 1) [] ts).1 ((B4 (fun t => Bc t 0 1) [] ts).2, (B4 (fun f => Ab f 0 1) [[⟨1, 0⟩]] D).2) := by
 unfold B4 at h
 by_cases h1 : (Hg (fun f => Ab f 0 1) D).1 ≠ 0
 ·rw [if_pos h1] at h; exact absurd h h1
 ·unfold B4 Lu W5 Yn
  rw [if_neg h1, if_pos (Decidable.not_not.mp h1)]
  by_cases h2 : (Hg (fun t => Bc t 0 1) ts).1 ≠ 0
  ·rw [if_pos h2]
   refine ⟨fun h0 => absurd h0 h2, fun _ => ?_⟩
   rw [if_neg h2]; rfl
  ·rw [if_neg h2]
   refine ⟨fun _ => ?_, fun h0 => absurd rfl h0⟩
   rw [if_pos (Decidable.not_not.mp h2)]; rfl
theorem B3b {ok : Nat → Prop} {w : World} {l : List CP} {a : SH} (h : (Hj l a).f ok w) (j : Nat) (hj : j < l.length) : Ar (l.getD j C1).1 := Bz (h.2 _ (Aa hj))
def Ec (t : T) (e : Ev) : Int × T := I9 (C7 Cc t e)
def F2 (t : T) (e : Ev) (b : Int × Int) : Int × T := I9 ((Is e b).bind fun e' => C7 Cc t e')
theorem B1z {t : T} {e : Ev} {b : Int × Int} {c : Int} (h : Is e b = .bad c) : F2 t e b = (c, t0) := by unfold F2; rw [h]; rfl
theorem B9x {t : T} {e e' : Ev} {b : Int × Int} (h : Is e b = .ok e') : F2 t e b = Ec t e' := by unfold F2; rw [h]; rfl
theorem A2d {e e' : Ev} {b : Int × Int} {n : Nat} (hn : 1 ≤ n) (h : ∀ x, x ∈ e.1 → size x ≤ n) (hk : Is e b = .ok e') : (∀ x, x ∈ e'.1 → size x ≤ n) ∧ (bnd b → (e'.1.length : Int) = e.1.length + b.1 ∧ (e'.2.length : Int) = e.2.length + b.2) := by
 unfold Is at hk
 split at hk
 ·rename_i h1
  obtain ⟨rfl, ht⟩ := A3j hk
  refine ⟨fun x hx => ?_, fun hb => ?_⟩
  ·rcases List.mem_cons.mp hx with rfl | hx
   ·have : size (vE 0) = 1 := by decide +kernel
    omega
   ·obtain ⟨y, hy, rfl⟩ := List.mem_map.mp hx
    rw [S3 (ht y hy)]; exact h y hy
  ·simp only [List.length_cons, List.length_map]; omega
 ·split at hk
  ·rename_i h1 h2
   obtain ⟨rfl, ht, _⟩ := A5v hk
   refine ⟨fun x hx => ?_, fun hb => ?_⟩
   ·obtain ⟨y, hy, rfl⟩ := List.mem_map.mp hx
    rw [S3 (ht y hy)]; exact h y hy
   ·simp only [List.length_cons, List.length_map]; omega
  ·injection hk with hk
   subst hk
   exact ⟨h, fun hb => by omega⟩
theorem St.Su {B : Cs} {Γ : List Fact} {Ms : List Bm} {w : World} (c : Nat) (hs : St B Γ Ms w) : St B (Hj [] (Option.none, c) :: Γ) Ms w := hs.add ⟨⟨Nat.zero_le _, by simp, fun h => absurd h D6⟩, fun x hx => by cases hx⟩
end Go.Hy
