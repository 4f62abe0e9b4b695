/- Contracts of this program's functions and the laws that they need: a separation logic over the machine's rules, one theorem each (partly printed by a program of this repository). -/
import Derived.Lib.TrailingZeros
import Derived.LaidMore
import Derived.OpenShut
import Derived.Stop.Joined
import Derived.MakeChecks
import Derived.Shelf.Spec.TrailingZeros
import Derived.Test.YtpfjlbopkhdebaaGreatDoorP1
import Derived.Test.YtpfjlbopkhdebaaGreatDoorP3
import Derived.Test.YtpfjlbopkhdebaaGreatDoorP4
import Derived.Test.YtpfjlbopkhdebaaGreatDoorP6
set_option linter.unusedVariables false
set_option linter.unusedSimpArgs false
set_option linter.unusedSectionVars false
namespace Go.Hy
def B2k (k n : Int) (nm : ByteArray) (r : List Cl) : Prop :=
 (k ≠ 1 → n = 0) ∧ (k ≠ 2 → nm.toList = (ByteArray.mk #[]).toList) ∧ (k = 1 → r = [] ∧ 0 ≤ n) ∧ (k = 2 → r = [] ∧ B0m nm = true) ∧ (k = 13 ∨ k = 21 ∨ k = 26 → A0h r = true) ∧ (k = 14 → A0d r = true) ∧ (k ≠ 13 ∧ k ≠ 21 ∧ k ≠ 26 ∧ k ≠ 14 → r = [])
mutual
def A8s : T → Prop
 | .mk k n nm r ks ss => B2k k n nm r ∧ A4j k = (ks.length : Int) ∧ (A3i k = 0 → ss = []) ∧ B0a ks ∧ B8z k ss
def B0a : List T → Prop
 | [] => True
 | t :: ts => A8s t ∧ B0a ts
def B8z (k : Int) : List Br → Prop
 | [] => True
 | .mk f ks :: bs => (ks.length : Int) = A3i k ∧ A0d f = true ∧ B0a ks ∧ B8z k bs
end
theorem B2z {k : Int} (h : k = 1 ∨ k = 2 ∨ k = 13 ∨ k = 21 ∨ k = 26 ∨ k = 14) : A3i k = 0 := by
 unfold A3i
 rcases h with h | h | h | h | h | h <;> subst h <;> decide
theorem C8p (l : List Cl) {d : Int} (h : 24 ≤ d) : within l d = true := by unfold within; rw [decide_eq_true h]; rfl
theorem C2t {α : Type} {l : List α} : ((l.length : Int) = 0) ↔ l = [] := by
 constructor
 ·intro h; exact List.eq_nil_of_length_eq_zero oo_
 ·rintro rfl; rfl
theorem C2h {k n : Int} {nm : ByteArray} {r : List Cl} {ks : List T} {ss : List Br} {d : Int} (hd : 24 ≤ d) : C2g (.mk k n nm r ks ss) (-1) d = true ↔ B2k k n nm r ∧ A4j k = (ks.length : Int) ∧ (A3i k = 0 → ss = []) ∧ ∀ b, b ∈ ss → (b.kids.length : Int) = A3i k ∧ A0d b.A1s = true := by
 have hB : ∀ b : Br, C3t (.mk k n nm r ks ss) d b = (decide ((b.kids.length : Int) = A3i k) && A0d b.A1s) := fun b => by
  unfold C3t; rw [C8p _ hd, Bool.and_true]; rfl
 have hL : (0 : Int) < (ss.length : Int) ↔ ss ≠ [] := by
  constructor
  ·intro h e; subst e; simp at h
  ·intro h; have := List.length_pos_iff.mpr h; omega
 have hs : ∀ p : Bool, (ss.all (C3t (.mk k n nm r ks ss) d) = true) ↔ ∀ b, b ∈ ss → (b.kids.length : Int) = A3i k ∧ A0d b.A1s = true := fun _ => by
  rw [List.all_eq_true]
  exact forall_congr' fun b => forall_congr' fun _ => by rw [hB]; simp
 unfold C2g B5p B2k
 simp only [T.kind, T.n, T.name, T.r, T.kids, T.sys, C8p _ hd, Bool.and_true, Bool.and_eq_true, Bool.not_eq_true', Bool.or_eq_false_iff, Bool.and_eq_false_iff, decide_eq_false_iff_not, Decidable.not_not, ne_eq, Int.not_lt, Bool.not_eq_false', beq_iff_eq]
 constructor
 ·rintro ⟨⟨⟨⟨h1, h2⟩, h3⟩, h4⟩, h5⟩
  replace h1 : A4j k = (ks.length : Int) := Decidable.not_not.mp (of_decide_eq_false h1)
  replace h2 : k = 1 ∨ n = 0 := h2.imp (fun h => Decidable.not_not.mp (of_decide_eq_false h)) (fun h => Decidable.not_not.mp (of_decide_eq_false h))
  replace h3 : k = 2 ∨ nm.toList = (ByteArray.mk #[]).toList := h3.imp (fun h => Decidable.not_not.mp (of_decide_eq_false h)) id
  replace h4 : ¬ A3i k = 0 ∨ ¬ (0 : Int) < (ss.length : Int) := h4.imp (fun h => of_decide_eq_false h) (fun h => of_decide_eq_false h)
  have hss : A3i k = 0 → ss = [] := by
   intro h
   rcases h4 with h4 | h4
   ·exact absurd h h4
   ·exact List.eq_nil_of_length_eq_zero oo_
  split at h5
  ·rename_i hk
   have he := hss (B2z oo_)
   subst he
   simp only [Bool.and_eq_true, decide_eq_true_eq] at h5
   exact ⟨⟨by omega, fun _ => h3.resolve_left oo_, fun _ => ⟨C2t.mp (of_decide_eq_true h5.1.1), of_decide_eq_true h5.1.2⟩, by omega, by omega, by omega, fun _ => C2t.mp (of_decide_eq_true h5.1.1)⟩, h1, hss, fun b hb => by cases hb⟩
  ·split at h5
   ·rename_i hk1 hk
    have he := hss (B2z oo_)
    subst he
    simp only [Bool.and_eq_true, decide_eq_true_eq] at h5
    exact ⟨⟨by omega, fun h => absurd hk h, by omega, fun _ => ⟨C2t.mp (of_decide_eq_true h5.1), h5.2⟩, by omega, by omega, fun _ => C2t.mp (of_decide_eq_true h5.1)⟩, h1, hss, fun b hb => by cases hb⟩
   ·split at h5
    ·rename_i hk1 hk2 hk
     have he := hss (B2z oo_)
     subst he
     exact ⟨⟨by omega, fun _ => h3.resolve_left oo_, by omega, by omega, fun _ => h5, by omega, by omega⟩, h1, hss, fun b hb => by cases hb⟩
    ·split at h5
     ·rename_i hk1 hk2 hk3 hk
      have he := hss (B2z oo_)
      subst he
      exact ⟨⟨by omega, fun _ => h3.resolve_left oo_, by omega, by omega, by omega, fun _ => h5, by omega⟩, h1, hss, fun b hb => by cases hb⟩
     ·rename_i hk1 hk2 hk3 hk4
      simp only [Bool.and_eq_true, decide_eq_true_eq] at h5
      exact ⟨⟨by omega, fun _ => h3.resolve_left oo_, by omega, by omega, by omega, by omega, fun _ => C2t.mp (of_decide_eq_true h5.2)⟩, h1, hss, (hs true).mp h5.1⟩
 ·rintro ⟨⟨a1, a2, a3, a4, a5, a6, a7⟩, b1, b2, b3⟩
  refine ⟨⟨⟨⟨decide_eq_false (Decidable.not_not.mpr b1), ?_⟩, ?_⟩, ?_⟩, ?_⟩
  ·by_cases h : k = 1
   ·exact .inl (decide_eq_false (Decidable.not_not.mpr h))
   ·exact .inr (decide_eq_false (Decidable.not_not.mpr (a1 h)))
  ·by_cases h : k = 2
   ·exact .inl (decide_eq_false (Decidable.not_not.mpr h))
   ·exact .inr (a2 h)
  ·by_cases h : A3i k = 0
   ·exact .inr (decide_eq_false (by rw [b2 h]; decide))
   ·exact .inl (decide_eq_false h)
  ·split
   ·rename_i h; simp [(a3 h).1, (a3 h).2]
   ·split
    ·rename_i h; simp [(a4 h).1, (a4 h).2]
    ·split
     ·rename_i h; exact a5 h
     ·split
      ·rename_i h; exact a6 h
      ·rename_i h1 h2 h3 h4
       rw [Bool.and_eq_true, (hs true)]
       exact ⟨b3, by simp [a7 oo_]⟩
theorem B7o : ∀ {ts : List T}, B0a ts ↔ ∀ t, t ∈ ts → A8s t
 | [] => by simp [B0a]
 | t :: ts => by simp [B0a, B7o (ts := ts)]
theorem C3b {k : Int} : ∀ {bs : List Br}, B8z k bs ↔ ∀ b, b ∈ bs → (b.kids.length : Int) = A3i k ∧ A0d b.A1s = true ∧ B0a b.kids
 | [] => by simp [B8z]
 | .mk f ks :: bs => by
  simp only [B8z, C3b (bs := bs), List.forall_mem_cons, Br.kids, Br.A1s]
  constructor
  ·rintro ⟨h1, h2, h3, h4⟩; exact ⟨⟨h1, h2, h3⟩, h4⟩
  ·rintro ⟨⟨h1, h2, h3⟩, h4⟩; exact ⟨h1, h2, h3, h4⟩
theorem B4m {t : T} : A8s t ↔ B2k t.kind t.n t.name t.r ∧ A4j t.kind = (t.kids.length : Int) ∧ (A3i t.kind = 0 → t.sys = []) ∧ B0a t.kids ∧ B8z t.kind t.sys := by
 obtain ⟨k, n, nm, r, ks, ss⟩ := t
 simp only [A8s, T.kind, T.n, T.name, T.r, T.kids, T.sys]
theorem C5q {t : T} : A8s t ↔ (∀ d : Int, 24 ≤ d → C2g t (-1) d = true) ∧ ∀ p, p ∈ parts t → A8s p.1 := by
 rw [B4m, B7o, C3b]
 have ho : ∀ d : Int, 24 ≤ d → (C2g t (-1) d = true ↔ B2k t.kind t.n t.name t.r ∧ A4j t.kind = (t.kids.length : Int) ∧ (A3i t.kind = 0 → t.sys = []) ∧ ∀ b, b ∈ t.sys → (b.kids.length : Int) = A3i t.kind ∧ A0d b.A1s = true) := by
  intro d hd
  obtain ⟨k, n, nm, r, ks, ss⟩ := t
  exact C2h hd
 constructor
 ·rintro ⟨h1, h2, h3, h4, h5⟩
  refine ⟨fun d hd => (ho d hd).mpr ⟨h1, h2, h3, fun b hb => ⟨(h5 b hb).1, (h5 b hb).2.1⟩⟩, fun p hp => ?_⟩
  rcases C4u hp with ⟨i, hi, rfl⟩ | ⟨s, k, hs, hk, rfl⟩
  ·exact h4 _ (A0l hi)
  ·exact B7o.mp (h5 _ (A0l hs)).2.2 _ (A0l hk)
 ·rintro ⟨h1, h2⟩
  obtain ⟨a1, a2, a3, a4⟩ := (ho 24 oo_).mp (h1 24 oo_)
  refine ⟨a1, a2, a3, fun k hk => ?_, fun b hb => ⟨(a4 b hb).1, (a4 b hb).2, B7o.mpr fun k hk => ?_⟩⟩
  ·obtain ⟨p, hp, e⟩ := A6i hk; exact e ▸ h2 p hp
  ·obtain ⟨p, hp, e⟩ := A6g hb hk; exact e ▸ h2 p hp
theorem F1m : ∀ (t : T) (d : Int), 24 ≤ d → (B6w t (-1) d false = true ↔ A8s t) := T.ind fun t ih d hd => by
 rw [E7b, C5q]
 have hw : ∀ p : Part, IntKind.i64.wrap (-1 + if (-1 : Int) < 0 then 0 else p.2.1) = -1 := fun p => by rw [if_pos de_]; decide
 constructor
 ·rintro ⟨_, h2, h3⟩
  refine ⟨fun d' hd' => ?_, fun p hp => ?_⟩
  ·obtain ⟨k, n, nm, r, ks, ss⟩ := t
   exact (C2h hd').mpr ((C2h hd).mp h2)
  ·have h4 := h3 p hp
   rw [hw] at h4
   have h5 := C7c hp
   exact (ih p hp (d + p.2.2) oo_).mp h4
 ·rintro ⟨h1, h2⟩
  refine ⟨by simp, h1 d hd, fun p hp => ?_⟩
  rw [hw]
  have h5 := C7c hp
  exact (ih p hp (d + p.2.2) oo_).mpr (h2 p hp)
theorem B3k {t : T} : A3v t = 0 ↔ sized t = 0 ∧ A8s t := by rw [D4w, F1m t 24 oo_]
section
variable {C : Type} {A : Tr C}
end
section
variable {CA CB CC : Type} {A : Tr CA} {B : Tr CB} {D : Tr CC} (R : CA → CB → CC → Prop)
variable {R}
end
section
variable {CA CC : Type} {A : Tr CA} {D : Tr CC} (R : CA → CC → Prop)
variable {R}
end
theorem B4g {s : Nat} {f b : Int} (h : (A0o s f b).1 = 0) (i : Nat) : 0 ≤ f ∧ 0 ≤ b ∧ (A0o s f b).2.testBit i = ((decide (i < min f.toNat 24) && (s &&& 16777215).testBit i) || (decide (min f.toNat 24 + b.toNat ≤ i) && (s &&& 16777215).testBit (i - b.toNat))) := by
 by_cases h0 : f < 0 ∨ b < 0
 ·rw [A0o, if_pos h0] at h; cases h
 ·have hq : ∀ j, (s &&& 16777215).testBit j = true → j < 24 := fun j hj => by rw [A5e, Bool.and_eq_true, decide_eq_true_eq] at hj; exact hj.1
  refine ⟨by omega, by omega, ?_⟩
  generalize hF : min f.toNat 24 = F at *
  by_cases h1 : A1g (s &&& 16777215) (2 ^ (min f.toNat 24) - 1) = 0
  ·rw [A0o, if_neg h0, if_pos h1]
   show ((s &&& 16777215) &&& (2 ^ (min f.toNat 24) - 1)).testBit i = _
   rw [hF] at h1 ⊢
   rw [Nat.testBit_and, B3h]
   have h2 : (decide (F + b.toNat ≤ i) && (s &&& 16777215).testBit (i - b.toNat)) = false := by
    cases h3 : (s &&& 16777215).testBit (i - b.toNat) with
    | false => rw [Bool.and_false]
    | true =>
     rw [Bool.and_true]
     refine decide_eq_false (fun h4 => ?_)
     have h5 : (A1g (s &&& 16777215) (2 ^ F - 1)).testBit (i - b.toNat) = true := by
      rw [A7k, B3h, h3, decide_eq_true (by have := hq _ h3; omega), decide_eq_false oo_]; rfl
     rw [h1, Nat.zero_testBit] at h5
     cases h5
   rw [h2, Bool.or_false, Bool.and_comm]
  ·by_cases h2 : 24 ≤ b ∨ 16777215 < A1g (s &&& 16777215) (2 ^ (min f.toNat 24) - 1) * 2 ^ b.toNat
   ·rw [A0o, if_neg h0, if_neg h1, if_pos h2] at h; cases h
   ·rw [A0o, if_neg h0, if_neg h1, if_neg h2]
    show (((s &&& 16777215) &&& (2 ^ (min f.toNat 24) - 1)) ||| (A1g (s &&& 16777215) (2 ^ (min f.toNat 24) - 1) * 2 ^ b.toNat)).testBit i = _
    rw [hF, Nat.testBit_or, Nat.testBit_and, B3h, Nat.testBit_mul_two_pow, A7k, B3h]
    cases h3 : (s &&& 16777215).testBit (i - b.toNat) with
    | false => simp [Bool.and_comm]
    | true =>
     have h4 := hq _ h3
     rw [decide_eq_true (show i - b.toNat < 32 by omega)]
     simp only [Bool.and_true, Bool.true_and]
     rw [Bool.and_comm]
     congr 1
     by_cases h5 : F + b.toNat ≤ i
     ·rw [decide_eq_true (show b.toNat ≤ i by omega), decide_eq_false (show ¬ i - b.toNat < F by omega), decide_eq_true h5]; rfl
     ·rw [decide_eq_false h5]
      by_cases h6 : b.toNat ≤ i
      ·rw [decide_eq_true h6, decide_eq_true (show i - b.toNat < F by omega)]; rfl
      ·rw [decide_eq_false h6]; rfl
theorem E6q {c : Cl} {f b : Int} (h : (A1b c f b).1 = 0) : A0u c = true ∧ (A0o c.pos f b).1 = 0 ∧ (A0o c.neg f b).1 = 0 ∧ (A1b c f b).2 = ⟨(A0o c.pos f b).2, (A0o c.neg f b).2⟩ := by
 unfold A1b at h ⊢
 split at h
 ·cases h
 ·rename_i h1
  split at h
  ·rename_i h2; exact absurd h h2
  ·rename_i h2
   split at h
   ·rename_i h3; exact absurd h h3
   ·rename_i h3
    rw [if_neg h1, if_neg h2, if_neg h3]
    exact ⟨by simpa using h1, Decidable.not_not.mp h2, Decidable.not_not.mp h3, rfl⟩
theorem A6f (l : List Cl) : ((A0p l).1 = 0 ∧ l.all A0u = true ∧ (A0p l).2 = A3x l ∧ (A3x l).length ≤ 64) ∨ (A0p l).1 = 2 ∨ (A0p l).1 = 3 := by
 unfold A0p
 split
 ·exact .inr (.inl rfl)
 ·rename_i h1
  split
  ·exact .inr (.inr rfl)
  ·rename_i h2
   exact .inl ⟨rfl, by simpa using h1, rfl, by omega⟩
theorem A5m {l : List Cl} (h : (A0p l).1 = 0) : A0h (A0p l).2 = true := by
 rcases A6f l with ⟨_, h1, h2, h3⟩ | h1 | h1
 ·rw [h2]
  unfold A0h
  rw [Bool.and_eq_true, Bool.and_eq_true, Bool.and_eq_true]
  refine ⟨⟨⟨List.all_eq_true.mpr fun c hc => List.all_eq_true.mp h1 c (A4t.mp hc).1, B2w.mpr (A8o l)⟩, C3o.mpr fun a ha b hb => A9v.mp (A4t.mp ha).2 b (A4t.mp hb).1⟩, decide_eq_true h3⟩
 ·rw [h1] at h; cases h
 ·rw [h1] at h; cases h
theorem B0w {l : List Cl} (h : (A0p l).1 = 0) {c : Cl} (hc : c ∈ (A0p l).2) : c ∈ l := by
 rcases A6f l with ⟨_, h1, h2, h3⟩ | h1 | h1
 ·rw [h2] at hc; exact (A4t.mp hc).1
 ·rw [h1] at h; cases h
 ·rw [h1] at h; cases h
theorem C3y {l : List Cl} {f b : Int} (h : (A0k l f b).1 = 0) : A0h l = true ∧ (∀ c, c ∈ l → (A1b c f b).1 = 0) ∧ A0k l f b = A0p (l.map fun c => (A1b c f b).2) := by
 unfold A0k at h ⊢
 split at h
 ·cases h
 ·rename_i h1
  split at h
  ·rename_i h2; exact absurd h h2
  ·rename_i h2
   have h3 : (A8i (fun c => A1b c f b) l).1 = 0 := Decidable.not_not.mp h2
   rw [if_neg h1, if_neg h2]
   exact ⟨by simpa using h1, D1r.mp h3, by rw [E5x h3]⟩
section
variable {C : Type} {A : Tr C}
end
theorem C5w (c : Cl) (f b : Int) : (A1b c f b).1 = 0 ∨ (A1b c f b).1 = 2 ∨ (A1b c f b).1 = 10 := by
 have hm : ∀ s, (A0o s f b).1 = 0 ∨ (A0o s f b).1 = 2 ∨ (A0o s f b).1 = 10 := fun s => by
  unfold A0o
  split
  ·exact .inr (.inl rfl)
  ·split
   ·exact .inl rfl
   ·split
    ·exact .inr (.inr rfl)
    ·exact .inl rfl
 unfold A1b
 split
 ·exact .inr (.inl rfl)
 ·split
  ·exact hm _
  ·split
   ·exact hm _
   ·exact .inl rfl
def B5l (r : A2m T) : Int × T := match r with
 | .ok u => (0, u)
 | .bad e => (e, t0)
section
variable {C : Type} {A : Tr C}
theorem D5q {k : Int} {c : C} : ∀ {ts : List T} {i : Nat}, (∀ j, j < ts.length → ∃ c' u, A.kid c (binds k ((i + j : Nat) : Int)) = .ok c' ∧ A6n A (ts.getD j t0) c' = .ok u) → ∃ us, A5t A k i ts c = .ok us
 | [], i, h => ⟨[], A4n _ _ _⟩
 | t :: ts, i, h => by
  obtain ⟨c', u, h1, h2⟩ := h 0 sp_
  obtain ⟨us, h3⟩ := D5q (ts := ts) (i := i + 1) (fun j hj => by
   have := h (j + 1) (by simpa using hj)
   rw [List.getD_cons_succ, show i + (j + 1) = i + 1 + j by omega] at this
   exact this)
  rw [Nat.add_zero] at h1
  rw [List.getD_cons_zero] at h2
  exact ⟨u :: us, by rw [A3k, h1]; simp only [A2m.bind]; rw [h2]; simp only; rw [h3]⟩
theorem D5o {k : Int} {c : C} : ∀ {ts : List T}, (∀ j, j < ts.length → ∃ c' u, A.kid c (0, more k) = .ok c' ∧ A6n A (ts.getD j t0) c' = .ok u) → ∃ us, A4u A k ts c = .ok us
 | [], h => ⟨[], A4m _ _⟩
 | t :: ts, h => by
  obtain ⟨c', u, h1, h2⟩ := h 0 sp_
  obtain ⟨us, h3⟩ := D5o (ts := ts) (fun j hj => by
   have := h (j + 1) (by simpa using hj)
   rw [List.getD_cons_succ] at this
   exact this)
  rw [List.getD_cons_zero] at h2
  exact ⟨u :: us, by rw [A3j, h1]; simp only [A2m.bind]; rw [h2]; simp only; rw [h3]⟩
end
theorem Spec.F3e {P : Program} {k : FuncId} {args : Array Value} {pre : List Fact} {Ms0 : List Res} {α X : Type} (r : α) {val : α → X → Value} {N : α → X → List Fact} {Ms1 : α → X → List Res} (h : Spec P k args pre Ms0 (val r) (N r) (Ms1 r)) :
  Spec P k args pre Ms0 (fun x : {x : α × X // x.1 = r} => val x.1.1 x.1.2) (fun x => N x.1.1 x.1.2) (fun x => Ms1 x.1.1 x.1.2) := fun ok w hk hs => (h ok w hk hs).mono fun e w' hh => by
 obtain ⟨x, he, hs'⟩ := hh
 exact ⟨⟨(r, x), rfl⟩, he, hs'⟩
section
variable {C : Type} {A : Tr C}
theorem D5r {k : Int} {c : C} : ∀ {ts us : List T} {i : Nat}, A5t A k i ts c = .ok us → us.length = ts.length ∧ ∀ j, j < us.length → ∃ c', A.kid c (binds k ((i + j : Nat) : Int)) = .ok c' ∧ A6n A (ts.getD j t0) c' = .ok (us.getD j t0)
 | [], us, i, h => by rw [A4n] at h; injection h with h; subst h; exact ⟨rfl, fun j hj => absurd hj sp_⟩
 | t :: ts, us, i, h => by
  rw [A3k] at h
  obtain ⟨c', h1, h⟩ := A2m.A0q h
  obtain ⟨t', h2, h⟩ := A2m.A0q h
  obtain ⟨ts', h3, h⟩ := A2m.A0q h
  injection h with h
  subst h
  obtain ⟨h4, h5⟩ := D5r h3
  refine ⟨by simp [h4], fun j hj => ?_⟩
  cases j with
  | zero => exact ⟨c', by simpa using h1, by simpa using h2⟩
  | succ j =>
   obtain ⟨d, h6, h7⟩ := h5 j (by simpa using hj)
   exact ⟨d, by rw [show i + (j + 1) = i + 1 + j by omega]; exact h6, by rw [List.getD_cons_succ, List.getD_cons_succ]; exact h7⟩
theorem D5p {k : Int} {c : C} : ∀ {ts us : List T}, A4u A k ts c = .ok us → us.length = ts.length ∧ ∀ j, j < us.length → ∃ c', A.kid c (0, more k) = .ok c' ∧ A6n A (ts.getD j t0) c' = .ok (us.getD j t0)
 | [], us, h => by rw [A4m] at h; injection h with h; subst h; exact ⟨rfl, fun j hj => absurd hj sp_⟩
 | t :: ts, us, h => by
  rw [A3j] at h
  obtain ⟨c', h1, h⟩ := A2m.A0q h
  obtain ⟨t', h2, h⟩ := A2m.A0q h
  obtain ⟨ts', h3, h⟩ := A2m.A0q h
  injection h with h
  subst h
  obtain ⟨h4, h5⟩ := D5p h3
  refine ⟨by simp [h4], fun j hj => ?_⟩
  cases j with
  | zero => exact ⟨c', h1, by simpa using h2⟩
  | succ j =>
   obtain ⟨d, h6, h7⟩ := h5 j (by simpa using hj)
   exact ⟨d, h6, by rw [List.getD_cons_succ, List.getD_cons_succ]; exact h7⟩
theorem C6n {k : Int} {c : C} : ∀ {bs us : List Br}, A6b A k bs c = .ok us → us.length ≤ bs.length ∧ ∀ u, u ∈ us → ∃ b, b ∈ bs ∧ A.A1s c b.A1s = .ok (some u.A1s) ∧ A4u A k b.kids c = .ok u.kids
 | [], us, h => by rw [A4y] at h; injection h with h; subst h; exact ⟨Nat.le_refl _, fun u hu => (by cases hu)⟩
 | b :: bs, us, h => by
  rw [A3u] at h
  obtain ⟨o, h1, h⟩ := A2m.A0q h
  cases o with
  | none =>
   obtain ⟨h4, h5⟩ := C6n h
   exact ⟨by simp only [List.length_cons]; omega, fun u hu => by obtain ⟨x, hx, h6⟩ := h5 u hu; exact ⟨x, List.mem_cons_of_mem _ hx, h6⟩⟩
  | some f' =>
   obtain ⟨ks', h2, h⟩ := A2m.A0q h
   obtain ⟨bs', h3, h⟩ := A2m.A0q h
   injection h with h
   subst h
   obtain ⟨h4, h5⟩ := C6n h3
   refine ⟨by simp only [List.length_cons]; omega, fun u hu => ?_⟩
   rcases List.mem_cons.mp hu with rfl | hu
   ·exact ⟨b, List.mem_cons_self, h1, h2⟩
   ·obtain ⟨x, hx, h6⟩ := h5 u hu; exact ⟨x, List.mem_cons_of_mem _ hx, h6⟩
theorem C0x {α : Type} {d x : α} {l : List α} (h : x ∈ l) : ∃ i, i < l.length ∧ l.getD i d = x := by
 obtain ⟨i, hi, e⟩ := List.mem_iff_getElem.mp h
 exact ⟨i, hi, by rw [A5s (d := d) hi]; exact e⟩
theorem E7x {t u : T} {c : C} (h : A6n A t c = .ok u) : A.own c t.kind t.n t.name t.r = .ok (.inl u) ∨ ∃ p, A.own c t.kind t.n t.name t.r = .ok (.inr p) ∧ (u.kind = t.kind ∧ u.n = p.1 ∧ u.name = t.name ∧ u.r = p.2) ∧
  (∀ q, q ∈ parts u → ∃ p, p ∈ parts t ∧ p.2 = q.2 ∧ ∃ c', A.kid c p.2 = .ok c' ∧ A6n A p.1 c' = .ok q.1) ∧ ∀ b', b' ∈ u.sys → ∃ b, b ∈ t.sys ∧ A.A1s c b.A1s = .ok (some b'.A1s) := by
 rw [A8j] at h
 obtain ⟨o, h1, h⟩ := A2m.A0q h
 cases o with
 | inl v => injection h with h; subst h; exact .inl h1
 | inr p =>
  obtain ⟨ks', h2, h⟩ := A2m.A0q h
  obtain ⟨ss', h3, h⟩ := A2m.A0q h
  injection h with h
  subst h
  obtain ⟨l1, l2⟩ := D5r h2
  obtain ⟨b1, b2⟩ := C6n h3
  refine .inr ⟨p, h1, ⟨rfl, rfl, rfl, rfl⟩, fun q hq => ?_, fun b' hb' => ?_⟩
  ·rcases C4u hq with ⟨i, hi, rfl⟩ | ⟨s, j, hs, hj, rfl⟩
   ·simp only [T.kids, T.kind] at hi ⊢
    obtain ⟨c', h4, h5⟩ := l2 i hi
    exact ⟨_, List.mem_of_getElem? (A5a t i oo_), rfl, c', by rw [Nat.zero_add] at h4; exact h4, h5⟩
   ·simp only [T.sys, T.kind] at hs hj ⊢
    obtain ⟨b, hb, _, h6⟩ := b2 _ (A0l (d := br0) hs)
    obtain ⟨h7, h8⟩ := D5p h6
    obtain ⟨c', h9, h10⟩ := h8 j hj
    obtain ⟨s', hs', e⟩ := C0x (d := br0) hb
    refine ⟨_, List.mem_of_getElem? (A5k t s' j hs' (by rw [e]; omega)), rfl, c', h9, ?_⟩
    rw [e]; exact h10
  ·obtain ⟨b, hb, h6, _⟩ := b2 b' hb'
   exact ⟨b, hb, h6⟩
theorem D5s {k : Int} {c : C} : ∀ {bs : List Br}, (∀ b, b ∈ bs → A.A1s c b.A1s = .ok none ∨ ∃ f', A.A1s c b.A1s = .ok (some f') ∧ ∃ us, A4u A k b.kids c = .ok us) → ∃ us, A6b A k bs c = .ok us
 | [], h => ⟨[], A4y _ _⟩
 | b :: bs, h => by
  obtain ⟨us, hu⟩ := D5s (bs := bs) fun x hx => h x (List.mem_cons_of_mem _ hx)
  rcases h b List.mem_cons_self with h1 | ⟨f', h1, ks, h2⟩
  ·exact ⟨us, by rw [A3u, h1]; simp only [A2m.bind]; exact hu⟩
  ·exact ⟨.mk f' ks :: us, by rw [A3u, h1]; simp only [A2m.bind]; rw [h2]; simp only; rw [hu]⟩
theorem F3x {t : T} {c : C} {o : T ⊕ (Int × List Cl)} (h1 : A.own c t.kind t.n t.name t.r = .ok o) (h2 : ∀ b, b ∈ t.sys → ∃ f', A.A1s c b.A1s = .ok f') (h3 : ∀ p, p ∈ parts t → ∃ c' u, A.kid c p.2 = .ok c' ∧ A6n A p.1 c' = .ok u) : ∃ u, A6n A t c = .ok u := by
 rw [A8j, h1]
 cases o with
 | inl u => exact ⟨u, rfl⟩
 | inr p =>
  simp only [A2m.bind]
  obtain ⟨ks, hk⟩ := D5q (A := A) (k := t.kind) (c := c) (ts := t.kids) (i := 0) (fun j hj => by
   obtain ⟨c', u, h4, h5⟩ := h3 _ (List.mem_of_getElem? (A5a t j hj))
   exact ⟨c', u, by rw [Nat.zero_add]; exact h4, h5⟩)
  obtain ⟨ss, hs⟩ := D5s (A := A) (k := t.kind) (c := c) (bs := t.sys) (fun b hb => by
   obtain ⟨f', hf⟩ := h2 b hb
   cases f' with
   | none => exact .inl hf
   | some f' =>
    refine .inr ⟨f', hf, D5o fun j hj => ?_⟩
    obtain ⟨s, hs, e⟩ := C0x (d := br0) hb
    obtain ⟨c', u, h4, h5⟩ := h3 _ (List.mem_of_getElem? (A5k t s j hs (by rw [e]; exact hj)))
    rw [e] at h5
    exact ⟨c', u, h4, h5⟩)
  exact ⟨_, by rw [hk]; simp only; rw [hs]⟩
theorem A4k {α β : Type} {x : A2m α} {k : α → A2m β} {e : Int} (h : x.bind k = .bad e) : x = .bad e ∨ ∃ a, x = .ok a ∧ k a = .bad e := by
 cases x with
 | ok a => exact .inr ⟨a, rfl, h⟩
 | bad e' => injection h with h; subst h; exact .inl rfl
theorem C8x {k : Int} {c : C} {e : Int} : ∀ {ts : List T} {i : Nat}, A5t A k i ts c = .bad e → ∃ j, j < ts.length ∧ (A.kid c (binds k ((i + j : Nat) : Int)) = .bad e ∨ ∃ c', A.kid c (binds k ((i + j : Nat) : Int)) = .ok c' ∧ A6n A (ts.getD j t0) c' = .bad e)
 | [], i, h => by rw [A4n] at h; cases h
 | t :: ts, i, h => by
  rw [A3k] at h
  rcases A4k h with h | ⟨c', h1, h⟩
  ·exact ⟨0, by simp, .inl (by simpa using h)⟩
  ·rcases A4k h with h | ⟨t', h2, h⟩
   ·exact ⟨0, by simp, .inr ⟨c', by simpa using h1, by simpa using h⟩⟩
   ·rcases A4k h with h | ⟨ts', h3, h⟩
    ·obtain ⟨j, hj, h4⟩ := C8x h
     refine ⟨j + 1, by simpa using hj, ?_⟩
     rw [List.getD_cons_succ, show i + (j + 1) = i + 1 + j by omega]; exact h4
    ·cases h
theorem C8u {k : Int} {c : C} {e : Int} : ∀ {ts : List T}, A4u A k ts c = .bad e → ∃ j, j < ts.length ∧ (A.kid c (0, more k) = .bad e ∨ ∃ c', A.kid c (0, more k) = .ok c' ∧ A6n A (ts.getD j t0) c' = .bad e)
 | [], h => by rw [A4m] at h; cases h
 | t :: ts, h => by
  rw [A3j] at h
  rcases A4k h with h | ⟨c', h1, h⟩
  ·exact ⟨0, by simp, .inl h⟩
  ·rcases A4k h with h | ⟨t', h2, h⟩
   ·exact ⟨0, by simp, .inr ⟨c', h1, by simpa using h⟩⟩
   ·rcases A4k h with h | ⟨ts', h3, h⟩
    ·obtain ⟨j, hj, h4⟩ := C8u h
     exact ⟨j + 1, by simpa using hj, by rw [List.getD_cons_succ]; exact h4⟩
    ·cases h
theorem C1i {k : Int} {c : C} {e : Int} : ∀ {bs : List Br}, A6b A k bs c = .bad e → ∃ b, b ∈ bs ∧ (A.A1s c b.A1s = .bad e ∨ A4u A k b.kids c = .bad e)
 | [], h => by rw [A4y] at h; cases h
 | b :: bs, h => by
  rw [A3u] at h
  rcases A4k h with h | ⟨o, h1, h⟩
  ·exact ⟨b, List.mem_cons_self, .inl h⟩
  ·cases o with
   | none => obtain ⟨x, hx, h⟩ := C1i h; exact ⟨x, List.mem_cons_of_mem _ hx, h⟩
   | some f' =>
    rcases A4k h with h | ⟨ks, h2, h⟩
    ·exact ⟨b, List.mem_cons_self, .inr h⟩
    ·rcases A4k h with h | ⟨us, h3, h⟩
     ·obtain ⟨x, hx, h⟩ := C1i h; exact ⟨x, List.mem_cons_of_mem _ hx, h⟩
     ·cases h
theorem D5n {t : T} {c : C} {e : Int} (h : A6n A t c = .bad e) : A.own c t.kind t.n t.name t.r = .bad e ∨ (∃ b, b ∈ t.sys ∧ A.A1s c b.A1s = .bad e) ∨ ∃ p, p ∈ parts t ∧ (A.kid c p.2 = .bad e ∨ ∃ c', A.kid c p.2 = .ok c' ∧ A6n A p.1 c' = .bad e) := by
 rw [A8j] at h
 rcases A4k h with h | ⟨o, h1, h⟩
 ·exact .inl h
 ·cases o with
  | inl u => cases h
  | inr p =>
   rcases A4k h with h | ⟨ks, h2, h⟩
   ·obtain ⟨j, hj, h3⟩ := C8x h
    rw [Nat.zero_add] at h3
    exact .inr (.inr ⟨_, List.mem_of_getElem? (A5a t j hj), h3⟩)
   ·rcases A4k h with h | ⟨ss, h3, h⟩
    ·obtain ⟨b, hb, h4⟩ := C1i h
     rcases h4 with h4 | h4
     ·exact .inr (.inl ⟨b, hb, h4⟩)
     ·obtain ⟨j, hj, h5⟩ := C8u h4
      obtain ⟨s, hs, e2⟩ := C0x (d := br0) hb
      refine .inr (.inr ⟨_, List.mem_of_getElem? (A5k t s j hs (by rw [e2]; exact hj)), ?_⟩)
      rw [e2]; exact h5
    ·cases h
end
theorem E5z {l : List Cl} {i : Nat} : (A5d l).testBit i = true ↔ i < 24 ∧ ∃ c, c ∈ l ∧ (c.pos ||| c.neg).testBit i = true := by
 unfold A5d
 rw [A5e, Bool.and_eq_true, decide_eq_true_eq, D7p (fun c : Cl => c.pos ||| c.neg)]
 simp
theorem C7n {s : Nat} {f b : Int} (h : (A0o s f b).1 = 0) (i : Nat) (hi : (A0o s f b).2.testBit i = true) : ∃ j, j < 24 ∧ s.testBit j = true ∧ (((j : Int) < f ∧ i = j) ∨ (f ≤ (j : Int) ∨ 24 ≤ j) ∧ (i : Int) = j + b) := by
 obtain ⟨h0, h1, h2⟩ := B4g h i
 rw [h2, Bool.or_eq_true, Bool.and_eq_true, Bool.and_eq_true, decide_eq_true_eq, decide_eq_true_eq, A5e, A5e, Bool.and_eq_true, Bool.and_eq_true, decide_eq_true_eq, decide_eq_true_eq] at hi
 rcases hi with ⟨h3, h4, h5⟩ | ⟨h3, h4, h5⟩
 ·exact ⟨i, h4, h5, .inl ⟨by omega, rfl⟩⟩
 ·exact ⟨i - b.toNat, h4, h5, .inr ⟨by omega, by omega⟩⟩
theorem D1v {t : T} (h : A8s t) {b : Br} (hb : b ∈ t.sys) : A0d b.A1s = true := (C3b.mp (B4m.mp h).2.2.2.2 b hb).2.1
theorem A5z {t : T} (h : A8s t) {p : Part} (hp : p ∈ parts t) : A8s p.1 := (C5q.mp h).2 p hp
def B8i : List T → Nat
 | [] => 0
 | t :: ts => size t + B8i ts
def C9o : List Br → Nat
 | [] => 0
 | b :: bs => B8i b.kids + C9o bs
theorem foldl_add {α : Type} (f : α → Nat) : ∀ (l : List α) (a : Nat), l.foldl (fun a p => a + f p) a = a + l.foldl (fun a p => a + f p) 0
 | [], a => rfl
 | x :: l, a => by rw [List.foldl_cons, List.foldl_cons, foldl_add f l (a + f x), foldl_add f l (0 + f x)]; omega
theorem C4i (t : T) : size t = 1 + B8i t.kids + C9o t.sys := by
 have hk : ∀ (k : Int) (ts : List T) (i : Nat), (A4r k i ts).foldl (fun a p => a + size p.1) 0 = B8i ts := by
  intro k ts
  induction ts with
  | nil => intro i; rfl
  | cons t ts ih => intro i; rw [A4r, List.foldl_cons, foldl_add, ih, B8i]; simp only; omega
 have hm : ∀ (ts : List T) (b : Int × Int), (ts.map fun k => ((k, b.1, b.2) : Part)).foldl (fun a p => a + size p.1) 0 = B8i ts := by
  intro ts b
  induction ts with
  | nil => rfl
  | cons t ts ih => rw [List.map_cons, List.foldl_cons, foldl_add, ih, B8i]; simp only; omega
 have hs : ∀ (k : Int) (bs : List Br), (A3g k bs).foldl (fun a p => a + size p.1) 0 = C9o bs := by
  intro k bs
  induction bs with
  | nil => rfl
  | cons b bs ih => rw [A3g, List.foldl_append, foldl_add, ih, hm b.kids (0, more k), C9o]
 rw [size_eq, parts, List.foldl_append, foldl_add, hs, foldl_add, hk]
section
variable {t u : T} {n : Int}
end
theorem A9x {s : Nat} {f b : Int} (h : (A0o s f b).1 = 0) (i : Nat) : (A0o s f b).2.testBit i = true ↔ ∃ j, j < 24 ∧ s.testBit j = true ∧ (((j : Int) < f ∧ i = j) ∨ (f ≤ (j : Int) ∧ (i : Int) = j + b)) := by
 obtain ⟨h0, h1, h2⟩ := B4g h i
 constructor
 ·intro hi
  obtain ⟨j, h3, h4, h5⟩ := C7n h i hi
  exact ⟨j, h3, h4, by omega⟩
 ·rintro ⟨j, h3, h4, h5⟩
  rw [h2, Bool.or_eq_true, Bool.and_eq_true, Bool.and_eq_true, decide_eq_true_eq, decide_eq_true_eq, A5e, A5e, Bool.and_eq_true, Bool.and_eq_true, decide_eq_true_eq, decide_eq_true_eq]
  rcases h5 with ⟨h5, rfl⟩ | ⟨h5, h6⟩
  ·exact .inl ⟨by omega, h3, h4⟩
  ·refine .inr ⟨by omega, ?_⟩
   rw [show i - b.toNat = j by omega]
   exact ⟨h3, h4⟩
theorem A2z {c : Cl} : A0u c = true ↔ c.pos < 16777216 ∧ c.neg < 16777216 := by unfold A0u; rw [Bool.and_eq_true, decide_eq_true_eq, decide_eq_true_eq]
section
variable {CA CB CC CD : Type} {A : Tr CA} {B : Tr CB} {C : Tr CC} {D : Tr CD} (R : CA → CB → CC → CD → Prop)
variable {R}
end
theorem B4v : ∀ {l m : List Int}, (l.Pairwise fun a b => a < b) → (m.Pairwise fun a b => a < b) → (∀ x, x ∈ l ↔ x ∈ m) → l = m
 | [], [], _, _, _ => rfl
 | [], b :: m, _, _, h => by have := (h b).mpr List.mem_cons_self; cases this
 | a :: l, [], _, _, h => by have := (h a).mp List.mem_cons_self; cases this
 | a :: l, b :: m, hl, hm, h => by
  obtain ⟨l1, l2⟩ := List.pairwise_cons.mp hl
  obtain ⟨m1, m2⟩ := List.pairwise_cons.mp hm
  have hab : a = b := by
   rcases List.mem_cons.mp ((h a).mp List.mem_cons_self) with h1 | h1
   ·exact h1
   ·rcases List.mem_cons.mp ((h b).mpr List.mem_cons_self) with h2 | h2
    ·exact h2.symm
    ·have := l1 b h2; have := m1 a h1; omega
  subst hab
  have : l = m := B4v l2 m2 fun x => by
   constructor
   ·intro hx
    rcases List.mem_cons.mp ((h x).mp (List.mem_cons_of_mem _ hx)) with h1 | h1
    ·subst h1; have := l1 x hx; omega
    ·exact h1
   ·intro hx
    rcases List.mem_cons.mp ((h x).mpr (List.mem_cons_of_mem _ hx)) with h1 | h1
    ·subst h1; have := m1 x hx; omega
    ·exact h1
  rw [this]
def shI (f b x : Int) : Int := if x < f then x else x + b
theorem E9r {s : Nat} {f b x : Int} (h0 : 0 ≤ f) (hb : 0 ≤ b) (hx : x ∈ A0g s) (hf : f ≤ x) (h : 24 ≤ x + b) : A0o s f b = (10, 0) := by
 obtain ⟨x0, x1, x2⟩ := A4f.mp hx
 have hbit : (A1g (s &&& 16777215) (2 ^ (min f.toNat 24) - 1)).testBit x.toNat = true := by
  rw [A7k, B3h, A5e, x2, decide_eq_true oo_, decide_eq_true oo_, decide_eq_false oo_]; rfl
 have hge := Nat.ge_two_pow_of_testBit hbit
 unfold A0o
 rw [if_neg oo_, if_neg (fun h1 => by rw [h1, Nat.zero_testBit] at hbit; cases hbit), if_pos]
 by_cases h24 : 24 ≤ b
 ·exact .inl h24
 ·right
  have h1 : 2 ^ x.toNat * 2 ^ b.toNat ≤ A1g (s &&& 16777215) (2 ^ (min f.toNat 24) - 1) * 2 ^ b.toNat := Nat.mul_le_mul_right _ hge
  rw [← Nat.pow_add] at h1
  have h2 : 2 ^ 24 ≤ 2 ^ (x.toNat + b.toNat) := Nat.pow_le_pow_right oo_ oo_
  have h3 : (2 : Nat) ^ 24 = 16777216 := by decide
  omega
theorem E5e {s : Nat} {f b : Int} (h0 : 0 ≤ f) (hb : 0 ≤ b) (h : ∀ x, x ∈ A0g s → x < f ∨ x + b < 24) : A0o s f b = (0, B2p ((A0g s).map (shI f b))) := by
 have h1 : (A0o s f b).1 = 0 := by
  unfold A0o
  rw [if_neg oo_]
  split
  ·rfl
  ·rename_i h2
   rw [if_neg]
   have hbits : ∀ i, (A1g (s &&& 16777215) (2 ^ (min f.toNat 24) - 1)).testBit i = true → (i : Int) + b < 24 := fun i hi => by
    rw [A7k, B3h, A5e] at hi
    simp only [Bool.and_eq_true, decide_eq_true_eq, Bool.not_eq_true', decide_eq_false_iff_not] at hi
    have hm : (i : Int) ∈ A0g s := A4f.mpr ⟨by omega, by omega, by simpa using hi.1.2.2⟩
    rcases h _ hm with h3 | h3 <;> omega
   obtain ⟨i, hi⟩ : ∃ i, (A1g (s &&& 16777215) (2 ^ (min f.toNat 24) - 1)).testBit i = true := by
    refine Classical.byContradiction fun hn => h2 (Nat.eq_of_testBit_eq fun i => ?_)
    rw [Nat.zero_testBit]
    cases hh : (A1g (s &&& 16777215) (2 ^ (min f.toNat 24) - 1)).testBit i with
    | false => rfl
    | true => exact absurd ⟨i, hh⟩ hn
   have hb24 := hbits i hi
   have hlt : A1g (s &&& 16777215) (2 ^ (min f.toNat 24) - 1) < 2 ^ (24 - b.toNat) := Nat.lt_pow_two_of_testBit _ fun j hj => by
    cases hh : (A1g (s &&& 16777215) (2 ^ (min f.toNat 24) - 1)).testBit j with
    | false => rfl
    | true => have := hbits j hh; omega
   rintro (h3 | h3)
   ·omega
   ·have h4 : A1g (s &&& 16777215) (2 ^ (min f.toNat 24) - 1) * 2 ^ b.toNat < 2 ^ (24 - b.toNat) * 2 ^ b.toNat := Nat.mul_lt_mul_of_pos_right hlt (Nat.pow_pos oo_)
    rw [← Nat.pow_add, show 24 - b.toNat + b.toNat = 24 by omega] at h4
    have h5 : (2 : Nat) ^ 24 = 16777216 := by decide
    omega
 refine Prod.ext h1 ?_
 have hlt := A8a s f b
 have e1 : (A0o s f b).2 = B2p (A0g (A0o s f b).2) := by rw [B8l, D5j]; exact (Nat.mod_eq_of_lt hlt).symm
 rw [e1]
 show B2p _ = B2p _
 congr 1
 refine B4v (B3i _ _) ?_ fun x => ?_
 ·rw [List.pairwise_map]
  refine (B3i s 24).imp fun {a c} hac => ?_
  unfold shI
  split <;> split <;> omega
 ·rw [List.mem_map]
  constructor
  ·intro hx
   obtain ⟨x0, x1, x2⟩ := A4f.mp hx
   obtain ⟨j, h2, h3, h4⟩ := (A9x h1 x.toNat).mp x2
   refine ⟨(j : Int), A4f.mpr ⟨by omega, by omega, by simpa using h3⟩, ?_⟩
   unfold shI
   split <;> omega
  ·rintro ⟨y, hy, rfl⟩
   obtain ⟨y0, y1, y2⟩ := A4f.mp hy
   have hsh : 0 ≤ shI f b y ∧ shI f b y < 24 := by
    unfold shI
    rcases h y hy with h2 | h2 <;> split <;> omega
   refine A4f.mpr ⟨hsh.1, hsh.2, (A9x h1 _).mpr ⟨y.toNat, by omega, y2, ?_⟩⟩
   unfold shI at hsh ⊢
   split <;> omega
theorem B5d (s : Nat) : (A0g s).Pairwise fun a b => a < b := by
 unfold A0g A2f
 rw [List.pairwise_map]
 refine List.Pairwise.filter _ ?_
 exact List.pairwise_lt_range.imp fun h => by omega
theorem E5i (s : Nat) : A0g (s &&& 16777215) = A0g s := by
 refine B4v (B5d _) (B5d _) fun x => ?_
 rw [A4f, A4f, A5e]
 constructor
 ·rintro ⟨h1, h2, h3⟩
  rw [Bool.and_eq_true] at h3
  exact ⟨h1, h2, h3.2⟩
 ·rintro ⟨h1, h2, h3⟩
  exact ⟨h1, h2, by rw [h3, decide_eq_true oo_]; rfl⟩
theorem E5h {r : Nat} (h0 : ¬ r = 0) (h : r < 4294967296) : ∃ m, r = 2 ^ Lib.ctz 32 r * (2 * m + 1) ∧ Lib.ctz 32 r < 32 := by
 obtain ⟨m, h1, h2⟩ := Lib.ctzFrom_spec 32 r oo_ h
 have e : Lib.ctz 32 r = Lib.ctzFrom 32 r := by unfold Lib.ctz; rw [if_neg h0]
 rw [e]
 exact ⟨m, h1, h2⟩
theorem F5u {r k m i : Nat} (h : r = 2 ^ k * (2 * m + 1)) : (r &&& (r - 1)).testBit i = (r.testBit i && decide (i ≠ k)) ∧ r.testBit k = true ∧ (i < k → r.testBit i = false) := by
 have hp : 0 < 2 ^ k := Nat.pow_pos de_
 have e1 : r = 2 ^ (k + 1) * m + 2 ^ k := by rw [h, Nat.pow_succ, Nat.mul_add, Nat.mul_assoc]; simp
 have e2 : r - 1 = 2 ^ (k + 1) * m + (2 ^ k - 1) := by omega
 have hb1 : 2 ^ k < 2 ^ (k + 1) := by rw [Nat.pow_succ]; omega
 have hb2 : 2 ^ k - 1 < 2 ^ (k + 1) := by omega
 have t1 : ∀ j, r.testBit j = if j < k + 1 then (2 ^ k).testBit j else m.testBit (j - (k + 1)) := fun j => by rw [e1]; exact Nat.testBit_two_pow_mul_add m hb1 j
 have t2 : ∀ j, (r - 1).testBit j = if j < k + 1 then (2 ^ k - 1).testBit j else m.testBit (j - (k + 1)) := fun j => by rw [e2]; exact Nat.testBit_two_pow_mul_add m hb2 j
 refine ⟨?_, by rw [t1, if_pos oo_, Nat.testBit_two_pow_self], fun hi => by rw [t1, if_pos oo_, Nat.testBit_two_pow_of_ne oo_]⟩
 rw [Nat.testBit_and, t1, t2]
 by_cases hi : i < k + 1
 ·rw [if_pos hi, if_pos hi, Nat.testBit_two_pow, Nat.testBit_two_pow_sub_one]
  by_cases hk : k = i
  ·subst hk; simp
  ·simp [hk]
 ·rw [if_neg hi, if_neg hi]
  have : i ≠ k := by omega
  simp [this]
theorem D1e {r : Nat} (h0 : ¬ r = 0) (h : r < 16777216) : Lib.ctz 32 r < 24 ∧ A0g r = (Lib.ctz 32 r : Int) :: A0g (r &&& (r - 1)) := by
 obtain ⟨m, h1, h2⟩ := E5h h0 oo_
 have hb := fun i => F5u (i := i) h1
 have hk : Lib.ctz 32 r < 24 := Decidable.byContradiction fun hn => by
  have h3 := Nat.ge_two_pow_of_testBit (hb 0).2.1
  have h4 : 2 ^ 24 ≤ 2 ^ Lib.ctz 32 r := Nat.pow_le_pow_right de_ oo_
  omega
 refine ⟨hk, B4v (B5d _) (List.pairwise_cons.mpr ⟨fun x hx => ?_, B5d _⟩) fun x => ?_⟩
 ·obtain ⟨x0, x1, x2⟩ := A4f.mp hx
  rw [(hb x.toNat).1, Bool.and_eq_true, decide_eq_true_eq] at x2
  have : ¬ x.toNat < Lib.ctz 32 r := fun hlt => by have := (hb x.toNat).2.2 hlt; rw [x2.1] at this; cases this
  omega
 ·rw [List.mem_cons, A4f, A4f, (hb x.toNat).1, Bool.and_eq_true, decide_eq_true_eq]
  constructor
  ·rintro ⟨x0, x1, x2⟩
   by_cases hx : x = (Lib.ctz 32 r : Int)
   ·exact .inl hx
   ·exact .inr ⟨x0, x1, x2, by omega⟩
  ·rintro (rfl | ⟨x0, x1, x2, _⟩)
   ·exact ⟨by omega, by omega, by rw [Int.toNat_natCast]; exact (hb 0).2.1⟩
   ·exact ⟨x0, x1, x2⟩
theorem F9o {r : Nat} (h0 : ¬ r = 0) : r &&& (r - 1) < r := Nat.lt_of_le_of_lt Nat.and_le_right oo_
def G3a : ByteArray := ⟨#[0, 1, 1, 2, 1, 2, 2, 3, 1, 2, 2, 3, 2, 3, 3, 4, 1, 2, 2, 3, 2, 3, 3, 4, 2, 3, 3, 4, 3, 4, 4, 5, 1, 2, 2, 3, 2, 3, 3, 4, 2, 3, 3, 4, 3, 4, 4, 5, 2, 3, 3, 4, 3, 4, 4, 5, 3, 4, 4, 5, 4, 5, 5, 6, 1, 2, 2, 3, 2, 3, 3, 4, 2, 3, 3, 4, 3, 4, 4, 5, 2, 3, 3, 4, 3, 4, 4, 5, 3, 4, 4, 5, 4, 5, 5, 6, 2, 3, 3, 4, 3, 4, 4, 5, 3, 4, 4, 5, 4, 5, 5, 6, 3, 4, 4, 5, 4, 5, 5, 6, 4, 5, 5, 6, 5, 6, 6, 7, 1, 2, 2, 3, 2, 3, 3, 4, 2, 3, 3, 4, 3, 4, 4, 5, 2, 3, 3, 4, 3, 4, 4, 5, 3, 4, 4, 5, 4, 5, 5, 6, 2, 3, 3, 4, 3, 4, 4, 5, 3, 4, 4, 5, 4, 5, 5, 6, 3, 4, 4, 5, 4, 5, 5, 6, 4, 5, 5, 6, 5, 6, 6, 7, 2, 3, 3, 4, 3, 4, 4, 5, 3, 4, 4, 5, 4, 5, 5, 6, 3, 4, 4, 5, 4, 5, 5, 6, 4, 5, 5, 6, 5, 6, 6, 7, 3, 4, 4, 5, 4, 5, 5, 6, 4, 5, 5, 6, 5, 6, 6, 7, 4, 5, 5, 6, 5, 6, 6, 7, 5, 6, 6, 7, 6, 7, 7, 8]⟩
def C2c (j : Nat) : Nat := j % 2 + j / 2 % 2 + j / 4 % 2 + j / 8 % 2 + j / 16 % 2 + j / 32 % 2 + j / 64 % 2 + j / 128 % 2
theorem D0m : ∀ j, j < 256 → G3a[j]? = some (UInt8.ofNat (C2c j)) ∧ C2c j ≤ 8 := by decide +kernel
def C0l (s : Nat) : Nat := C2c (s / 16777216) + C2c (s / 65536 &&& 255) + C2c (s / 256 &&& 255) + C2c (s &&& 255)
theorem E3j : ∀ k, k < 24 → C0l (2 ^ k) = 1 := by decide +kernel
theorem D9i : C0l 0 = 0 := by decide
theorem D8h (s : Nat) : s &&& 255 < 256 := Nat.lt_of_le_of_lt Nat.and_le_right de_
section
variable {tn : Bool} {pn : Nat} {P : Program} [Tab P] {f : FuncId} {R : Ending → World → Prop} {B : A6z} {n : Fz} {K : List Item} {ops : Array Oper} {i : Nat} {l fin : List Nat} {σ : Nat → Value} {Γ : List Fact} {Ms Ms2 : List Res}
variable {dst : Option Tmp} {op : Op} {ty : TypeId} {pos : String} {after : Array Edge} {v : Value} {x y z : Operand}
theorem D4e {t : TypeId} {s : ByteArray} {j : Nat} (hu : Tab.und P t = some .string) (hx : ev σ x = .string s) (hs : s = G3a) (hy : ev σ y = .int .u32 (j : Int)) (hj : j < 256) : A3f P σ (.index t x y) ty (.int .u8 (C2c j : Nat)) := fun w => by
 subst hs
 have h := (D0m j hj)
 have e : ((UInt8.ofNat (C2c j)).toNat : Int) = (C2c j : Nat) := by
  rw [UInt8.toNat_ofNat']
  have := h.2
  omega
 simp [opr, execOp, hx, hy, Instr.index, asIntOf, A5f hu, h.1]
 have := h.2
 omega
theorem E8w {t t' : TypeId} {a b : Nat} (hx : ev σ x = .int .u8 (a : Nat)) (hy : ev σ y = .int .u8 (b : Nat)) (h : a + b < 256) : A3f P σ (.binOp .add t x y t') ty (.int .u8 ((a + b : Nat) : Int)) :=
 A4h hx hy (fun w => A1w w) (fun w => by
  have e : IntKind.u8.wrap ((a : Int) + (b : Int)) = ((a + b : Nat) : Int) := by simp [IntKind.wrap, IntKind.signed, IntKind.bits]; omega
  show Result.ok (Value.int .u8 (IntKind.u8.wrap ((a : Int) + (b : Int)))) w = _
  rw [e])
theorem E3v {s d : TypeId} {ds : TypeDesc} {a : Nat} (hs : Tab.und P s = some ds) (hd : Tab.und P d = some (.int .i64)) (hx : ev σ x = .int .u8 (a : Nat)) (ha : a < 256) : A3f P σ (.convert s d x) ty (.int .i64 (a : Int)) := by
 have h := A9g hs hd hx (ty := ty)
 rwa [show IntKind.i64.wrap (a : Int) = (a : Int) by rw [IntKind.wrap_i64]; omega] at h
theorem C6g {t : TypeId} {s : ByteArray} {j : Nat} (k_ : NV tn pn P f R B n K ops fin l (A1u σ dst (.int .u8 (C2c j : Nat))) Γ Ms) (hx : ev σ x = .string s := by exact wn_) (hy : ev σ y = .int .u32 (j : Int) := by exact wn_) (hs : s = G3a := by rfl) (hu : Tab.und P t = some .string := by rfl) (hj : j < 256 := by first | omega | exact D8h _) (hd : A0t n dst = true := by rfl) : NvT tn pn P f R B n K ops fin i l dst (.index t x y) ty σ Γ Ms := A4b (D4e hu hx hs hy hj) hd k_
theorem D3h {t t' : TypeId} {a b : Nat} (k_ : NV tn pn P f R B n K ops fin l (A1u σ dst (.int .u8 ((a + b : Nat) : Int))) Γ Ms) (hx : ev σ x = .int .u8 (a : Nat) := by exact wn_) (hy : ev σ y = .int .u8 (b : Nat) := by exact wn_) (h : a + b < 256 := by omega) (hd : A0t n dst = true := by rfl) : NvT tn pn P f R B n K ops fin i l dst (.binOp .add t x y t') ty σ Γ Ms := A4b (E8w hx hy h) hd k_
theorem E7u {s d : TypeId} {ds : TypeDesc} {a : Nat} (k_ : NV tn pn P f R B n K ops fin l (A1u σ dst (.int .i64 (a : Int))) Γ Ms) (hx : ev σ x = .int .u8 (a : Nat) := by exact wn_) (hs : Tab.und P s = some ds := by rfl) (hd' : Tab.und P d = some (.int .i64) := by rfl) (ha : a < 256 := by omega) (hd : A0t n dst = true := by rfl) : NvT tn pn P f R B n K ops fin i l dst (.convert s d x) ty σ Γ Ms := A4b (E3v hs hd' hx ha) hd k_
end
theorem C5k {l : List Cl} (h : (A0p l).1 ≠ 0) : (A0p l).2 = [] := by
 unfold A0p at h ⊢
 split
 ·rfl
 ·rename_i h1
  rw [if_neg h1] at h
  split
  ·rfl
  ·rename_i h2
   rw [if_neg h2] at h
   exact absurd rfl h
theorem C7s {l : List Cl} {f b : Int} : 0 ≤ (A0k l f b).1 := by
 have hl : ∀ m : List Cl, 0 ≤ (A0p m).1 := fun m => by rcases A6f m with h | h | h <;> omega
 unfold A0k
 split
 ·exact (show (0 : Int) ≤ 2 by omega)
 ·split
  ·unfold A8i
   split
   ·rename_i c _
    rcases C5w c f b with h | h | h <;> (simp only; omega)
   ·exact Int.le_refl 0
  ·exact hl _
theorem D4x {l : List Cl} {f b : Int} : (A0k l f b).1 ≤ 10 := by
 have hl : ∀ m : List Cl, (A0p m).1 ≤ 10 := fun m => by rcases A6f m with h | h | h <;> omega
 unfold A0k
 split
 ·exact (show (2 : Int) ≤ 10 by omega)
 ·split
  ·unfold A8i
   split
   ·rename_i c _
    rcases C5w c f b with h | h | h <;> (simp only; omega)
   ·exact (show (0 : Int) ≤ 10 by omega)
  ·exact hl _
def C3u (e : Int) : T := .mk (-e) 0 ⟨#[]⟩ [] [] []
theorem B1c {t : T} (h : A8s t) : 0 ≤ t.kind := by
 have h2 := (B4m.mp h).2.1
 unfold A4j at h2
 repeat' split at h2
 all_goals omega
theorem B2f {e : Int} (h : 0 < e) : (C3u e).kind < 0 := by show -e < 0; omega
abbrev EL : Type := Int × List Cl
def A7p (i : Int) : Nat := if 0 ≤ i ∧ i < 24 then 2 ^ i.toNat else 0
def B1e (s : Nat) (i : Int) : Nat := if 0 ≤ i ∧ i < 24 then (s &&& 16777215) ||| 2 ^ i.toNat else s &&& 16777215
def A0m (s : Nat) (i : Int) : Nat := if 0 ≤ i ∧ i < 24 then A1g (s &&& 16777215) (2 ^ i.toNat) else s &&& 16777215
theorem B0u (i : Int) : B1e 0 i = A7p i := by unfold B1e A7p; split <;> simp
theorem B0k (i : Int) : A7p i < 16777216 := by
 unfold A7p
 split
 ·exact Nat.pow_lt_pow_right (n := 24) (a := 2) de_ oo_
 ·decide
theorem C6c (s : Nat) (i : Int) : B1e s i < 16777216 := by
 unfold B1e
 split
 ·exact Nat.or_lt_two_pow (n := 24) (by have := A7v s; omega) (Nat.pow_lt_pow_right (n := 24) (a := 2) de_ oo_)
 ·exact A7v s
theorem A4x (s : Nat) (i : Int) : A0m s i < 16777216 := by
 unfold A0m
 split
 ·rw [show (16777216 : Nat) = 2 ^ 24 from rfl]
  exact Nat.lt_pow_two_of_testBit _ fun j hj => by
   rw [A7k, A5e, decide_eq_false (show ¬ j < 24 by omega)]; simp
 ·exact A7v s
theorem F0d (s : Nat) (i : Int) : ((decide (0 ≤ i) && decide (i < 24)) && decide (((s / 2 ^ (min i.toNat 32) &&& 1 : Nat) : Int) = 1)) = A4l s i := by
 rw [B4j, Nat.and_one_is_mod]
 by_cases h : 0 ≤ i ∧ i < 24
 ·rw [show min i.toNat 32 = i.toNat by omega]
  congr 1
  exact decide_eq_decide.mpr oo_
 ·have : (decide (0 ≤ i) && decide (i < 24)) = false := by simp; omega
  rw [this]; rfl
def A5q (i : Int) : Bool := decide (0 ≤ i) && decide (i < 24)
theorem E3i {i : Int} (h : A5q i = true) : C0l (A7p i &&& 16777215) = 1 := by
 have h1 : 0 ≤ i ∧ i < 24 := by unfold A5q at h; simpa using h
 have h2 := B0k i
 rw [D5j, Nat.mod_eq_of_lt oo_]
 unfold A7p
 rw [if_pos h1]
 exact E3j _ oo_
theorem D6k {i : Int} (h : A5q i = false) : C0l (A7p i &&& 16777215) = 0 := by
 have h1 : ¬ (0 ≤ i ∧ i < 24) := by unfold A5q at h; simp at h; omega
 unfold A7p
 rw [if_neg h1]
 exact D9i
theorem E3h (i : Int) : decide (((C0l (A7p i &&& 16777215) : Nat) : Int) = 1) = A5q i := by
 cases h : A5q i
 ·rw [D6k h]; rfl
 ·rw [E3i h]; rfl
theorem D6l (i : Int) : decide (((C0l (A7p i &&& 16777215) : Nat) : Int) = 0) = !A5q i := by
 cases h : A5q i
 ·rw [D6k h]; rfl
 ·rw [E3i h]; rfl
def B1d (x : EL) (k : List Cl → EL) : EL := if x.1 ≠ 0 then (x.1, []) else k x.2
theorem A2g {x : EL} {k : List Cl → EL} (h : x.1 ≠ 0) : B1d x k = (x.1, []) := if_pos h
theorem A2k {x : EL} {k : List Cl → EL} (h : x.1 = 0) : B1d x k = k x.2 := if_neg (by simp [h])
def A4c (g : List Cl → Cl → EL) : List Cl → List Cl → EL
 | h, [] => (0, h)
 | h, c :: cs => B1d (g h c) fun h' => A4c g h' cs
theorem C7v {g : List Cl → Cl → EL} : ∀ {l m h h' : List Cl}, A4c g h l = (0, h') → A4c g h (l ++ m) = A4c g h' m
 | [], m, h, h', e => by
  rw [A4c, Prod.mk.injEq] at e
  rw [List.nil_append, e.2]
 | d :: l, m, h, h', e => by
  rw [A4c] at e
  by_cases h0 : (g h d).1 = 0
  ·rw [A2k h0] at e
   rw [List.cons_append, A4c, A2k h0]
   exact C7v e
  ·rw [A2g h0, Prod.mk.injEq] at e
   exact absurd e.1 h0
theorem B3n {g : List Cl → Cl → EL} {l h h' : List Cl} {i : Nat} (hi : i < l.length) (e : A4c g h (l.take i) = (0, h')) (h0 : (g h' (l.getD i cl0)).1 = 0) : A4c g h (l.take (i + 1)) = (0, (g h' (l.getD i cl0)).2) := by
 rw [A0f (d := cl0) hi, C7v e, A4c, A2k h0, A4c]
theorem A7i {g : List Cl → Cl → EL} {l h h' : List Cl} {i : Nat} (hi : i < l.length) (e : A4c g h (l.take i) = (0, h')) (h0 : (g h' (l.getD i cl0)).1 ≠ 0) : A4c g h l = ((g h' (l.getD i cl0)).1, []) := by
 have e2 : l = l.take i ++ l.getD i cl0 :: l.drop (i + 1) := by rw [A5s (d := cl0) hi, List.getElem_cons_drop, List.take_append_drop]
 rw [e2, C7v e, ← e2, A4c, A2g h0]
theorem C3a {g : List Cl → Cl → EL} {l h h' : List Cl} {i : Nat} (hi : i = l.length) (e : A4c g h (l.take i) = (0, h')) : A4c g h l = (0, h') := by
 rw [hi, List.take_length] at e
 exact e
def A7h (f g : List Cl) : EL := A0p (f ++ g)
def B0h (f g : List Cl) : List Cl := f.flatMap fun a => g.map fun b => A4q a b
def A9w (f g : List Cl) : EL := A0p (B0h f g)
def E1d (c : Cl) : List Cl := ((A0g c.pos).map fun i => (⟨0, A7p i⟩ : Cl)) ++ ((A0g c.neg).map fun i => (⟨A7p i, 0⟩ : Cl))
def C4x (c : Cl) : EL := A0p (E1d c)
def A3c (h : List Cl) (c : Cl) : EL := B1d (C4x c) fun o => A9w h o
def B5s (f : List Cl) : EL := A4c A3c [cl0] f
def A6u (f : List Cl) : EL := if A0h f then B5s f else (2, [])
def A0j (c : Cl) (i : Int) : Cl := ⟨A0m c.pos i, A0m c.neg i⟩
def A4e (i : Int) (r : List Cl) (c : Cl) : EL := if A4l c.pos i then A9w [A0j c i] r else (0, [A0j c i])
def A8f (i : Int) (r : List Cl) (c : Cl) (g : List Cl) : EL := if A4l c.neg i then B1d (B5s r) fun s => A9w g s else (0, g)
def A2i (i : Int) (r h : List Cl) (c : Cl) : EL := B1d (A4e i r c) fun g => B1d (A8f i r c g) fun g => A7h h g
theorem B9s {i : Int} {r h : List Cl} {c : Cl} {P : EL} (hP : A4e i r c = P) (h0 : P.1 ≠ 0) : A2i i r h c = (P.1, []) := by unfold A2i; rw [hP]; exact A2g h0
theorem A8e {i : Int} {r h : List Cl} {c : Cl} {P N : EL} (hP : A4e i r c = P) (h0 : P.1 = 0) (hN : A8f i r c P.2 = N) (h1 : N.1 ≠ 0) : A2i i r h c = (N.1, []) := by unfold A2i; rw [hP, A2k h0, hN]; exact A2g h1
theorem A9e {i : Int} {r h : List Cl} {c : Cl} {P N : EL} (hP : A4e i r c = P) (h0 : P.1 = 0) (hN : A8f i r c P.2 = N) (h1 : N.1 = 0) : A2i i r h c = A7h h N.2 := by unfold A2i; rw [hP, A2k h0, hN]; exact A2k h1
theorem C4n {i : Int} {r : List Cl} {c : Cl} {g : List Cl} {s : EL} (h : A4l c.neg i = true) (hs : s = B5s r) (h0 : s.1 ≠ 0) : A8f i r c g = (s.1, []) := by unfold A8f; rw [if_pos h, ← hs]; exact A2g h0
theorem B4y {i : Int} {r : List Cl} {c : Cl} {g : List Cl} {s m : EL} (h : A4l c.neg i = true) (hs : s = B5s r) (h0 : s.1 = 0) (hm : m = A9w g s.2) : A8f i r c g = m := by unfold A8f; rw [if_pos h, ← hs, hm]; exact A2k h0
theorem D0l {i : Int} {r : List Cl} {c : Cl} {g : List Cl} (h : A4l c.neg i = false) : A8f i r c g = (0, g) := by unfold A8f; rw [if_neg (by simp [h])]
def A1a (f : List Cl) (i : Int) (r : List Cl) : EL := if (A0h f && A0h r) = false then (2, []) else if A5q i = false then (2, []) else A4c (A2i i r) [] f
def A6k (l : List Cl) : List Cl := l.filter fun c => !A6s c
def ofF (f : List Cl) : EL := if A0h f then A0p (A6k f) else (2, [])
def A1h (r : List Cl) : EL := B1d (A6u r) ofF
def B1g (f g : List Cl) : EL := A0p (f.flatMap fun a => A6k (g.map fun b => A4q a b))
def A2l (i : Int) (r : List Cl) (c : Cl) : EL := if A4l c.pos i then B1d (ofF r) fun x => B1g [A0j c i] x else if A4l c.neg i then B1d (A1h r) fun x => B1g [A0j c i] x else (0, [A0j c i])
def A2c (i : Int) (r h : List Cl) (c : Cl) : EL := B1d (A2l i r c) fun g => A7h h g
theorem A9j {i : Int} {r h : List Cl} {c : Cl} {P : EL} (hP : A2l i r c = P) (h0 : P.1 = 0) : A2c i r h c = A7h h P.2 := by unfold A2c; rw [hP]; exact A2k h0
theorem A5n {i : Int} {r h : List Cl} {c : Cl} {P : EL} (hP : A2l i r c = P) (h0 : P.1 ≠ 0) : A2c i r h c = (P.1, []) := by unfold A2c; rw [hP]; exact A2g h0
theorem D1z {i : Int} {r : List Cl} {c : Cl} {q m : EL} (h : A4l c.pos i = true) (hq : q = ofF r) (h0 : q.1 = 0) (hm : m = B1g [A0j c i] q.2) : A2l i r c = m := by unfold A2l; rw [if_pos h, ← hq, hm]; exact A2k h0
theorem C7y {i : Int} {r : List Cl} {c : Cl} {q : EL} (h : A4l c.pos i = true) (hq : q = ofF r) (h0 : q.1 ≠ 0) : A2l i r c = (q.1, []) := by unfold A2l; rw [if_pos h, ← hq]; exact A2g h0
theorem D2a {i : Int} {r : List Cl} {c : Cl} {q m : EL} (h1 : A4l c.pos i = false) (h : A4l c.neg i = true) (hq : q = A1h r) (h0 : q.1 = 0) (hm : m = B1g [A0j c i] q.2) : A2l i r c = m := by unfold A2l; rw [if_neg (by simp [h1]), if_pos h, ← hq, hm]; exact A2k h0
theorem C7z {i : Int} {r : List Cl} {c : Cl} {q : EL} (h1 : A4l c.pos i = false) (h : A4l c.neg i = true) (hq : q = A1h r) (h0 : q.1 ≠ 0) : A2l i r c = (q.1, []) := by unfold A2l; rw [if_neg (by simp [h1]), if_pos h, ← hq]; exact A2g h0
theorem D5a {i : Int} {r : List Cl} {c : Cl} (h1 : A4l c.pos i = false) (h : A4l c.neg i = false) : A2l i r c = (0, [A0j c i]) := by unfold A2l; rw [if_neg (by simp [h1]), if_neg (by simp [h])]
def A0v (f : List Cl) (i : Int) (r : List Cl) : EL := if (A0d f && A5q i && A0h r) = false then (2, []) else A4c (A2c i r) [] f
def single (c : Cl) : Bool := A0u c && !A6s c
def A2w (f g : List Cl) : EL := if (A0d f && A0d g) = false then (2, []) else A7h f g
abbrev okE (x : EL) : Prop := A1m x.2
theorem E2r {l m : List Cl} (h : A1m l) (hs : ∀ c, c ∈ m → c ∈ l) (hl : m.length ≤ l.length) : A1m m := ⟨fun c hc => h.1 c (hs c hc), by have := h.2; omega⟩
theorem B2j {l : List Cl} (h : ∀ c, c ∈ l → u32 c) : okE (A0p l) := D1h h
theorem A9n {x : EL} {k : List Cl → EL} (h : x.1 = 0 → okE (k x.2)) : okE (B1d x k) := by
 by_cases h0 : x.1 = 0
 ·rw [A2k h0]; exact h h0
 ·rw [A2g h0]; exact A5j
theorem C0v {g : List Cl → Cl → EL} : ∀ {l h : List Cl}, (∀ h c, c ∈ l → A1m h → okE (g h c)) → A1m h → okE (A4c g h l)
 | [], h, _, h2 => h2
 | c :: l, h, h1, h2 => by
  rw [A4c]
  exact A9n fun _ => C0v (fun h' d hd => h1 h' d (List.mem_cons_of_mem _ hd)) (h1 h c List.mem_cons_self h2)
theorem B2s {a b : Cl} (h : u32 a) (h2 : u32 b) : u32 (A4q a b) := ⟨Nat.or_lt_two_pow (n := 32) h.1 h2.1, Nat.or_lt_two_pow (n := 32) h.2 h2.2⟩
theorem C6i {f g : List Cl} (h : ∀ c, c ∈ f → u32 c) (h2 : ∀ c, c ∈ g → u32 c) : ∀ c, c ∈ f ++ g → u32 c := fun c hc => (List.mem_append.mp hc).elim (h c) (h2 c)
theorem C8t {f g : List Cl} (h : ∀ c, c ∈ f → u32 c) (h2 : ∀ c, c ∈ g → u32 c) : ∀ c, c ∈ B0h f g → u32 c := fun c hc => by
 obtain ⟨a, ha, hc⟩ := List.mem_flatMap.mp hc
 obtain ⟨b, hb, rfl⟩ := List.mem_map.mp hc
 exact B2s (h a ha) (h2 b hb)
theorem E1s (c : Cl) : ∀ d, d ∈ E1d c → u32 d := fun d hd => by
 rcases List.mem_append.mp hd with hd | hd
 ·obtain ⟨i, _, rfl⟩ := List.mem_map.mp hd
  exact ⟨by show (0 : Nat) < _; decide, by have := B0k i; show A7p i < 4294967296; omega⟩
 ·obtain ⟨i, _, rfl⟩ := List.mem_map.mp hd
  exact ⟨by have := B0k i; show A7p i < 4294967296; omega, by show (0 : Nat) < _; decide⟩
theorem A5h (c : Cl) (i : Int) : u32 (A0j c i) := ⟨by have := A4x c.pos i; show A0m c.pos i < _; omega, by have := A4x c.neg i; show A0m c.neg i < _; omega⟩
theorem A3r {c : Cl} (h : u32 c) : A1m [c] := ⟨fun d hd => by rw [List.mem_singleton] at hd; subst hd; exact h, by unfold reach; simp⟩
theorem B3c {f g : List Cl} (h : A1m f) (h2 : A1m g) : okE (A7h f g) := B2j (C6i h.1 h2.1)
theorem B3b {f g : List Cl} (h : A1m f) (h2 : A1m g) : okE (A9w f g) := B2j (C8t h.1 h2.1)
theorem E4m (c : Cl) : okE (C4x c) := B2j (E1s c)
theorem C2l {h : List Cl} {c : Cl} (hh : A1m h) : okE (A3c h c) := A9n fun _ => B3b hh (E4m c)
theorem B8n : A1m [cl0] := A3r ⟨by decide, by decide⟩
theorem B8t (f : List Cl) : okE (B5s f) := C0v (fun h c _ hh => C2l hh) B8n
theorem D6u (f : List Cl) : okE (A6u f) := by unfold A6u; split; exact B8t f; exact A5j
theorem D9o {i : Int} {r : List Cl} {c : Cl} (hr : A1m r) : okE (A4e i r c) := by
 unfold A4e
 split
 ·exact B3b (A3r (A5h c i)) hr
 ·exact A3r (A5h c i)
theorem D9p {i : Int} {r : List Cl} {c : Cl} {g : List Cl} (hg : A1m g) : okE (A8f i r c g) := by
 unfold A8f
 split
 ·exact A9n fun _ => B3b hg (B8t r)
 ·exact hg
theorem C2k {i : Int} {r h : List Cl} {c : Cl} (hr : A1m r) (hh : A1m h) : okE (A2i i r h c) := by
 unfold A2i
 refine A9n fun _ => A9n fun _ => B3c hh ?_
 have h1 : okE (A4e i r c) := D9o hr
 exact D9p h1
theorem D4i {f r : List Cl} {i : Int} (hr : A1m r) : okE (A1a f i r) := by
 unfold A1a
 split
 ·exact A5j
 ·split
  ·exact A5j
  ·exact C0v (fun h c _ hh => C2k hr hh) A5j
theorem B8o {l : List Cl} (h : A1m l) : A1m (A6k l) := E2r h (fun c hc => (List.mem_filter.mp hc).1) (List.length_filter_le _ _)
theorem D0x {f : List Cl} (h : A1m f) : okE (ofF f) := by unfold ofF; split; exact B2j (B8o h).1; exact A5j
theorem B5a (r : List Cl) : okE (A1h r) := A9n fun _ => D0x (D6u r)
theorem B2i {f g : List Cl} (h : A1m f) (h2 : A1m g) : okE (B1g f g) := B2j fun c hc => by
 obtain ⟨a, ha, hc⟩ := List.mem_flatMap.mp hc
 obtain ⟨b, hb, rfl⟩ := List.mem_map.mp (List.mem_filter.mp hc).1
 exact B2s (h.1 a ha) (h2.1 b hb)
theorem D0z {i : Int} {r : List Cl} {c : Cl} (hr : A1m r) : okE (A2l i r c) := by
 unfold A2l
 split
 ·exact A9n fun _ => B2i (A3r (A5h c i)) (D0x hr)
 ·split
  ·exact A9n fun _ => B2i (A3r (A5h c i)) (B5a r)
  ·exact A3r (A5h c i)
theorem D0y {i : Int} {r h : List Cl} {c : Cl} (hr : A1m r) (hh : A1m h) : okE (A2c i r h c) := A9n fun _ => B3c hh (D0z hr)
theorem D4j {f r : List Cl} {i : Int} (hr : A1m r) : okE (A0v f i r) := by
 unfold A0v
 split
 ·exact A5j
 ·exact C0v (fun h c _ hh => D0y hr hh) A5j
abbrev E1f (x : EL) : Prop := x.2.length ≤ 64
theorem A5l (l : List Cl) : E1f (A0p l) := by
 rcases A6f l with ⟨_, _, h, h2⟩ | h | h
 ·show (A0p l).2.length ≤ 64; rw [h]; exact h2
 ·show (A0p l).2.length ≤ 64; rw [C5k oo_]; decide
 ·show (A0p l).2.length ≤ 64; rw [C5k oo_]; decide
theorem B7m {x : EL} {k : List Cl → EL} (h : x.1 = 0 → E1f (k x.2)) : E1f (B1d x k) := by
 by_cases h0 : x.1 = 0
 ·rw [A2k h0]; exact h h0
 ·rw [A2g h0]; show ([] : List Cl).length ≤ 64; decide
theorem D7l {g : List Cl → Cl → EL} : ∀ {l h : List Cl}, (∀ h c, c ∈ l → h.length ≤ 64 → E1f (g h c)) → h.length ≤ 64 → E1f (A4c g h l)
 | [], h, _, h2 => h2
 | c :: l, h, h1, h2 => by
  rw [A4c]
  exact B7m fun _ => D7l (fun h' d hd => h1 h' d (List.mem_cons_of_mem _ hd)) (h1 h c List.mem_cons_self h2)
theorem C2s (h : List Cl) (c : Cl) : E1f (A3c h c) := B7m fun _ => A5l _
theorem E5k (f : List Cl) : E1f (B5s f) := D7l (fun h c _ _ => C2s h c) de_
theorem D4n (i : Int) (r h : List Cl) (c : Cl) : E1f (A2i i r h c) := B7m fun _ => B7m fun _ => A5l _
theorem F2y (f : List Cl) : E1f (ofF f) := by unfold ofF; split; exact A5l _; (show ([] : List Cl).length ≤ 64; decide)
theorem D9w (r : List Cl) : E1f (A1h r) := B7m fun _ => F2y _
theorem A5b {f : List Cl} (h : A0h f = true) : f.length ≤ 64 := by
 unfold A0h at h
 simp only [Bool.and_eq_true, decide_eq_true_eq] at h
 exact h.2
theorem E8z (c : Cl) : (E1d c).length ≤ 48 := by
 unfold E1d
 rw [List.length_append, List.length_map, List.length_map]
 have h1 : (A0g c.pos).length ≤ 24 := A6v _ _
 have h2 : (A0g c.neg).length ≤ 24 := A6v _ _
 omega
theorem D7k {s i : Nat} (h : i < (A0g s).length) : 0 ≤ (A0g s).getD i 0 ∧ (A0g s).getD i 0 < 24 := by
 have h1 := B1b (A0l (d := (0 : Int)) h)
 exact ⟨h1.1, by have := h1.2; exact_mod_cast this⟩
theorem D7j {s i : Nat} (h : i < (A0g s).length) : A2a ((A0g s).getD i 0) := by have := D7k h; unfold A2a; omega
theorem D1c (f g : List Cl) : (B0h f g).length = f.length * g.length := by
 unfold B0h
 induction f with
 | nil => simp
 | cons a f ih => rw [List.flatMap_cons, List.length_append, ih, List.length_map, List.length_cons, Nat.succ_mul]; omega
theorem D9t (f g : List Cl) (a : Cl) : B0h (f ++ [a]) g = B0h f g ++ g.map fun b => A4q a b := by unfold B0h; rw [List.flatMap_append]; simp
theorem A1v {ok : Nat → Prop} {l : List Cl} {a : SH} {w : World} (h : B3v ok l a w) : A1m l := ⟨h.2, h.1.2.1⟩
def E1g (i : Int) : EL := if A5q i then (0, [⟨A7p i, 0⟩]) else (2, [])
theorem St.F9p {B : A6z} {Γ : List Fact} {Ms : List Res} {w : World} {e : TypeId} {b : Nat} {l m : List Cl} {a a' : SH} (hs : St B Γ (A1o b [sl a l.length, sl a' m.length] e :: Ms) w) {hBp : Prop} (hB : hBp) (hF : CL l a ∈ Γ) (hG : CL m a' ∈ Γ) : St B (CCF [(l, a), (m, a')] (some ⟨b, 0, Option.none⟩, 2) :: Γ) Ms w := by
 have h1 := ((hs.A5o (sz := 1) (m := 2) rfl de_).E7c cpE).D2y (x := (l, a)) List.mem_cons_self (List.mem_cons_of_mem _ hF)
 have h2 := h1.D2y (x := (m, a')) List.mem_cons_self (List.mem_cons_of_mem _ (List.mem_cons_of_mem _ hG))
 exact (h2.C1q (F := B9e) (E := cpE) (d := cp0) (bt := 24) (l := [(l, a), (m, a')]) (fun _ => rfl) hB List.mem_cons_self rfl rfl de_).less sx_
theorem St.F9r {B : A6z} {Γ : List Fact} {Ms : List Res} {w : World} {b : Nat} {e : TypeId} {cs : List Value} {c : Cl} (hs : St B Γ (A1o b cs e :: Ms) w) {hBp : Prop} (hB : hBp) (hc : cs = A0r c) (hu : u32 c) : St B (CL [c] (some ⟨b, 0, Option.none⟩, 1) :: Γ) Ms w :=
 (hs.A5o (sz := 2) (m := 1) (by rw [hc]; rfl) de_).A1f (l := [c]) hB (by rw [hc]; simp [A0i]) rfl (A3r hu).2 (A3r hu).1
theorem Spec.D6e {P : Program} {k : FuncId} {args : Array Value} {pre : List Fact} {e : TypeId} {r r' : EL} (he : r' = r) (h : Spec P k args pre [] (fun x : SH => .tuple #[sl x r.2.length, .int .i64 r.1]) (fun _ => []) (fun x => [A1d 2 e x r.2.length (A0i r.2)])) (hr : okE r) :
  Spec P k args pre [] (fun x : SH => .tuple #[sl x r'.2.length, .int .i64 r'.1]) (fun x => [CL r'.2 x]) (fun _ => []) := by
 subst he
 exact fun ok w hok hst => (h ok w hok hst).mono fun e w' hh => by
  obtain ⟨x, he, hs⟩ := hh
  exact ⟨x, he, hs.A1f trivial rfl rfl hr.2 hr.1⟩
theorem Spec.C6w {P : Program} {k : FuncId} {args : Array Value} {pre : List Fact} {e : TypeId} {r r' : EL} (he : r' = r) (h : Spec P k args pre [] (fun x : SH => .tuple #[sl x r.2.length, .int .i64 r.1]) (fun _ => []) (fun x => [A1d 2 e x r.2.length (A0i r.2)])) :
  Spec P k args pre [] (fun x : SH => .tuple #[sl x r'.2.length, .int .i64 r'.1]) (fun _ => []) (fun x => [A1d 2 e x r'.2.length (A0i r'.2)]) := by
 subst he
 exact h
structure A4s where
 form : Int → List Cl → EL
 A1s : Int → List Cl → EL
def elR (x : EL) : A2m (List Cl) := if x.1 = 0 then .ok x.2 else .bad x.1
theorem E6c {x : EL} (h : x.1 = 0) : elR x = .ok x.2 := if_pos h
theorem E6d {x : EL} (h : x.1 ≠ 0) : elR x = .bad x.1 := if_neg h
theorem B9c {x : EL} {g : List Cl} : elR x = .ok g ↔ x = (0, g) := by
 unfold elR
 split
 ·rename_i h
  constructor
  ·intro h2; injection h2 with h2; exact Prod.ext h h2
  ·rintro rfl; rfl
 ·rename_i h
  constructor
  ·intro h2; cases h2
  ·rintro rfl; exact absurd rfl h
theorem C3d {x : EL} {e : Int} : elR x = .bad e ↔ x.1 = e ∧ e ≠ 0 := by
 unfold elR
 split
 ·rename_i h
  constructor
  ·intro h2; cases h2
  ·rintro ⟨h2, h3⟩; exact absurd (h2.symm.trans h) h3
 ·rename_i h
  constructor
  ·intro h2; injection h2 with h2; exact ⟨h2, h2 ▸ h⟩
  ·rintro ⟨h2, h3⟩; rw [h2]
def A4s.row (W : A4s) (k d : Int) (r : List Cl) : EL := if k = 14 then W.A1s d r else W.form d r
def A0w (W : A4s) : Tr Int where
 own d k n _ r := (elR (W.row k d r)).bind fun g => .ok (.inr (n, g))
 A1s d f := (elR (W.A1s d f)).bind fun g => .ok (if g.length = 0 then none else some g)
 kid d b := .ok (d + b.2)
theorem A5g {W : A4s} {d : Int} {b : Int × Int} : (A0w W).kid d b = .ok (d + b.2) := rfl
theorem A7f {W : A4s} {d k n : Int} {nm : ByteArray} {r : List Cl} (h : (W.row k d r).1 = 0) : (A0w W).own d k n nm r = .ok (.inr (n, (W.row k d r).2)) := by
 show (elR _).bind _ = _; rw [E6c h]; rfl
theorem A9r {W : A4s} {d k n : Int} {nm : ByteArray} {r : List Cl} (h : (W.row k d r).1 ≠ 0) : (A0w W).own d k n nm r = .bad (W.row k d r).1 := by
 show (elR _).bind _ = _; rw [E6d h]; rfl
theorem B9q {W : A4s} {d k n : Int} {nm : ByteArray} {r : List Cl} {p : Int × List Cl} : (A0w W).own d k n nm r = .ok (.inr p) ↔ W.row k d r = (0, p.2) ∧ p.1 = n := by
 constructor
 ·intro h
  obtain ⟨g, hg, h2⟩ := A2m.A0q (x := elR (W.row k d r)) h
  injection h2 with h2; injection h2 with h2; subst h2
  exact ⟨B9c.mp hg, rfl⟩
 ·rintro ⟨h1, h2⟩
  rw [A7f (by rw [h1]), h1, ← h2]
theorem B1o {W : A4s} {d k n : Int} {nm : ByteArray} {r : List Cl} {u : T} : (A0w W).own d k n nm r ≠ .ok (.inl u) := by
 intro h
 obtain ⟨g, hg, h2⟩ := A2m.A0q (x := elR (W.row k d r)) h
 injection h2 with h2; cases h2
theorem B3s {W : A4s} {d k n e : Int} {nm : ByteArray} {r : List Cl} : (A0w W).own d k n nm r = .bad e ↔ (W.row k d r).1 = e ∧ e ≠ 0 := by
 rw [← C3d]
 show (elR _).bind _ = _ ↔ _
 cases elR (W.row k d r) with
 | ok g => constructor <;> (intro h; cases h)
 | bad e' => exact Iff.intro (fun h => by injection h with h; rw [h]) (fun h => by injection h with h; rw [h]; rfl)
theorem B1w {W : A4s} {d : Int} {f : List Cl} (h : (W.A1s d f).1 = 0) (h2 : (W.A1s d f).2.length = 0) : (A0w W).A1s d f = .ok none := by
 show (elR _).bind _ = _; rw [E6c h]; show A2m.ok (if _ then _ else _) = _; rw [if_pos h2]
theorem B1v {W : A4s} {d : Int} {f : List Cl} (h : (W.A1s d f).1 = 0) (h2 : (W.A1s d f).2.length ≠ 0) : (A0w W).A1s d f = .ok (some (W.A1s d f).2) := by
 show (elR _).bind _ = _; rw [E6c h]; show A2m.ok (if _ then _ else _) = _; rw [if_neg h2]
theorem A8n {W : A4s} {d : Int} {f : List Cl} (h : (W.A1s d f).1 ≠ 0) : (A0w W).A1s d f = .bad (W.A1s d f).1 := by
 show (elR _).bind _ = _; rw [E6d h]; rfl
theorem A7a {W : A4s} {d : Int} {f : List Cl} : (A0w W).A1s d f = .ok none ↔ W.A1s d f = (0, []) := by
 constructor
 ·intro h
  obtain ⟨g, hg, h2⟩ := A2m.A0q (x := elR (W.A1s d f)) h
  injection h2 with h2
  rw [B9c.mp hg]
  split at h2
  ·rename_i h3; rw [List.eq_nil_of_length_eq_zero h3]
  ·cases h2
 ·intro h; exact B1w (by rw [h]) (by rw [h]; rfl)
theorem A3h {W : A4s} {d : Int} {f g : List Cl} : (A0w W).A1s d f = .ok (some g) ↔ W.A1s d f = (0, g) ∧ g ≠ [] := by
 constructor
 ·intro h
  obtain ⟨g', hg, h2⟩ := A2m.A0q (x := elR (W.A1s d f)) h
  injection h2 with h2
  split at h2
  ·cases h2
  ·rename_i h3
   injection h2 with h2; subst h2
   exact ⟨B9c.mp hg, fun h => h3 (by rw [h]; rfl)⟩
 ·rintro ⟨h, h2⟩
  have h3 := B1v (W := W) (d := d) (f := f) (by rw [h]) (by rw [h]; intro h4; exact h2 (List.eq_nil_of_length_eq_zero h4))
  rw [h3, h]
theorem B2e {W : A4s} {d e : Int} {f : List Cl} : (A0w W).A1s d f = .bad e ↔ (W.A1s d f).1 = e ∧ e ≠ 0 := by
 rw [← C3d]
 show (elR _).bind _ = _ ↔ _
 cases elR (W.A1s d f) with
 | ok g => constructor <;> (intro h; cases h)
 | bad e' => exact Iff.intro (fun h => by injection h with h; rw [h]) (fun h => by injection h with h; rw [h]; rfl)
def A7j (g : Nat → T → A2m T) : Nat → List T → A2m (List T)
 | _, [] => .ok []
 | i, t :: ts => (g i t).bind fun t' => (A7j g (i + 1) ts).bind fun ts' => .ok (t' :: ts')
section
variable {g : Nat → T → A2m T}
theorem B9d : ∀ (i : Nat) (l : List T) (t : T), A7j g i (l ++ [t]) = (A7j g i l).bind fun l' => (g (i + l.length) t).bind fun t' => .ok (l' ++ [t'])
 | i, [], t => by
  simp only [List.nil_append, A7j, A2m.bind, List.length_nil, Nat.add_zero]
 | i, a :: l, t => by
  simp only [List.cons_append, A7j, B9d (i + 1) l t, List.length_cons]
  rw [show i + 1 + l.length = i + (l.length + 1) by omega]
  cases g i a with
  | bad e => rfl
  | ok a' =>
   simp only [A2m.bind]
   cases A7j g (i + 1) l with
   | bad e => rfl
   | ok l' =>
    simp only
    cases g (i + (l.length + 1)) t with
    | bad e => rfl
    | ok c2 => rfl
theorem D2h {e : Int} : ∀ {l m : List T} {i : Nat}, A7j g i l = .bad e → A7j g i (l ++ m) = .bad e
 | [], m, i, h => by rw [A7j] at h; cases h
 | a :: l, m, i, h => by
  rw [List.cons_append, A7j]
  rw [A7j] at h
  cases h1 : g i a with
  | bad e' => rw [h1] at h; exact h
  | ok a' =>
   rw [h1] at h
   simp only [A2m.bind] at h ⊢
   cases h3 : A7j g (i + 1) l with
   | bad e' => rw [h3] at h; rw [D2h h3]; exact h
   | ok l' => rw [h3] at h; cases h
theorem D5b {l us : List T} {i : Nat} {u : T} (hi : i < l.length) (h : A7j g 0 (l.take i) = .ok us) (hu : g i (l.getD i t0) = .ok u) : A7j g 0 (l.take (i + 1)) = .ok (us ++ [u]) := by
 rw [A0f (d := t0) hi, B9d, h]
 simp only [A2m.bind, List.length_take, Nat.zero_add, Nat.min_eq_left (Nat.le_of_lt hi)]
 rw [hu]
theorem D2i {l us : List T} {i : Nat} {e : Int} (hi : i < l.length) (h : A7j g 0 (l.take i) = .ok us) (hu : g i (l.getD i t0) = .bad e) : A7j g 0 l = .bad e := by
 have h1 : A7j g 0 (l.take (i + 1)) = .bad e := by
  rw [A0f (d := t0) hi, B9d, h]
  simp only [A2m.bind, List.length_take, Nat.zero_add, Nat.min_eq_left (Nat.le_of_lt hi)]
  rw [hu]
 have h2 := D2h (m := l.drop (i + 1)) h1
 rwa [List.take_append_drop] at h2
theorem D2g : ∀ {l us : List T} {i : Nat}, A7j g i l = .ok us → us.length = l.length
 | [], us, i, h => by rw [A7j] at h; injection h with h; subst h; rfl
 | a :: l, us, i, h => by
  rw [A7j] at h
  obtain ⟨a', _, h⟩ := A2m.A0q h
  obtain ⟨l', h2, h⟩ := A2m.A0q h
  injection h with h; subst h
  simp [D2g h2]
theorem D2f {e : Int} : ∀ {l : List T} {i : Nat}, A7j g i l = .bad e → ∃ j t, t ∈ l ∧ g j t = .bad e
 | [], i, h => by rw [A7j] at h; cases h
 | a :: l, i, h => by
  rw [A7j] at h
  cases h1 : g i a with
  | bad e' => rw [h1] at h; injection h with h; subst h; exact ⟨i, a, List.mem_cons_self, h1⟩
  | ok a' =>
   rw [h1] at h
   simp only [A2m.bind] at h
   cases h3 : A7j g (i + 1) l with
   | bad e' => rw [h3] at h; injection h with h; subst h; obtain ⟨j, t, ht, hj⟩ := D2f h3; exact ⟨j, t, List.mem_cons_of_mem _ ht, hj⟩
   | ok l' => rw [h3] at h; cases h
end
theorem C1h {W : A4s} {k d : Int} : ∀ {i : Nat} {ts : List T}, A5t (A0w W) k i ts d = A7j (fun j t => A6n (A0w W) t (d + (binds k j).2)) i ts
 | i, [] => by rw [A4n, A7j]
 | i, t :: ts => by rw [A3k, A7j, A5g, C1h (i := i + 1) (ts := ts)]; rfl
theorem C1f {W : A4s} {k d : Int} : ∀ {i : Nat} {ts : List T}, A4u (A0w W) k ts d = A7j (fun _ t => A6n (A0w W) t (d + more k)) i ts
 | i, [] => by rw [A4m, A7j]
 | i, t :: ts => by rw [A3j, A7j, A5g, C1f (i := i + 1) (ts := ts)]; rfl
theorem B2t {C : Type} {A : Tr C} {k : Int} {c : C} {ss : List Br} {s : Nat} {bs : List Br} (hs : s < ss.length) (hb : A6b A k (ss.take s) c = .ok bs) (hf : A.A1s c (ss.getD s br0).A1s = .ok none) : A6b A k (ss.take (s + 1)) c = .ok bs := by
 rw [A0f (d := br0) hs, B4t, hb]
 simp only [A2m.bind]
 rw [hf]
theorem C6m {C : Type} {A : Tr C} {t : T} {c : C} {e : Int} {p : Int × List Cl} (h : A.own c t.kind t.n t.name t.r = .ok (.inr p)) (hl : A5t A t.kind 0 t.kids c = .bad e) : A6n A t c = .bad e := by
 rw [A8j, h]; simp only [A2m.bind]; rw [hl]
def B7x (r : A2m (List T)) : Int × List T := match r with
 | .ok u => (0, u)
 | .bad e => (e, [])
theorem E6y {r : A2m T} (h : (B5l r).1 ≠ 0) : r = .bad (B5l r).1 := by
 cases r with
 | ok u => exact absurd rfl h
 | bad e => rfl
theorem F1h {r : A2m T} (hb : ∀ e, r = .bad e → e ≠ 0) (h : (B5l r).1 = 0) : r = .ok (B5l r).2 := by
 cases r with
 | ok u => rfl
 | bad e => exact absurd h (hb e rfl)
theorem C6a {r : A2m (List T)} (h : (B7x r).1 ≠ 0) : r = .bad (B7x r).1 := by
 cases r with
 | ok u => exact absurd rfl h
 | bad e => rfl
theorem D2s {r : A2m (List T)} (hb : ∀ e, r = .bad e → e ≠ 0) (h : (B7x r).1 = 0) : r = .ok (B7x r).2 := by
 cases r with
 | ok u => rfl
 | bad e => exact absurd h (hb e rfl)
theorem B6c {W : A4s} : ∀ (t : T) {d e : Int}, A6n (A0w W) t d = .bad e → e ≠ 0 := T.ind fun t ih d e h => by
 rcases D5n h with h1 | ⟨b, _, h1⟩ | ⟨p, hp, h1 | ⟨c', _, h2⟩⟩
 ·exact (B3s.mp h1).2
 ·exact (B2e.mp h1).2
 ·cases h1
 ·exact ih p hp h2
theorem C0d {W : A4s} {b : Nat → Int} {l : List T} {i : Nat} {e d : Int} (h : A7j (fun j t => A6n (A0w W) t (d + b j)) i l = .bad e) : e ≠ 0 := by
 obtain ⟨j, t, _, h1⟩ := D2f h
 exact B6c t h1
abbrev A3b (W : A4s) (t : T) (d : Int) : Int × T := B5l (A6n (A0w W) t d)
abbrev C8r (W : A4s) (b : Nat → Int) (l : List T) (d : Int) : Int × List T := B7x (A7j (fun j t => A6n (A0w W) t (d + b j)) 0 l)
def A2u (P : List Cl → Int → List Cl → EL) (i : Int) (r : List Cl) (d : Int) (f : List Cl) : EL := if A4l (A5d f) (i + d) = false then (0, f) else B1d (A0k r 0 d) fun s => P f (i + d) s
def A8d (i : Int) (r : List Cl) : A4s := ⟨A2u A1a i r, A2u A0v i r⟩
def B1z (i : Int) (d : Int) (f : List Cl) : EL := A0p (f.map fun c => ⟨A6a c.pos (i + d), A6a c.neg (i + d)⟩)
def B1y (i : Int) : A4s := ⟨B1z i, B1z i⟩
theorem C6j {f : List Cl} {j : Int} {c : Cl} (hc : c ∈ f.map fun c => (⟨A6a c.pos j, A6a c.neg j⟩ : Cl)) : u32 c := by
 obtain ⟨e, _, rfl⟩ := List.mem_map.mp hc
 exact ⟨by have := B1s e.pos j; show A6a _ _ < _; omega, by have := B1s e.neg j; show A6a _ _ < _; omega⟩
theorem C9m {t k : T} (h : k ∈ t.kids) : size k < size t := by obtain ⟨p, hp, e⟩ := A6i h; exact e ▸ B1l hp
theorem C9k {t k : T} {b : Br} (h : b ∈ t.sys) (h2 : k ∈ b.kids) : size k < size t := by obtain ⟨p, hp, e⟩ := A6g h h2; exact e ▸ B1l hp
theorem Spec.E7w {P : Program} {k : FuncId} {args : Array Value} {pre : List Fact} {Ms0 : List Res} {y : Tys} {r r' : Int × T} (he : r' = r) (h : Spec P k args pre Ms0 (fun x : {h : HT // h.er = r.2} => .tuple #[.agg (tc r.2 x.1.vr x.1.vk x.1.vs).toArray, .int .i64 r.1]) (fun _ => []) (fun x => [A4w (A5i y x.1)])) :
  Spec P k args pre Ms0 (fun x : {h : HT // h.er = r'.2} => .tuple #[.agg (tc r'.2 x.1.vr x.1.vk x.1.vs).toArray, .int .i64 r'.1]) (fun _ => []) (fun x => [A4w (A5i y x.1)]) := by
 subst he
 exact h
theorem Spec.F9s {P : Program} {k : FuncId} {args : Array Value} {pre : List Fact} {Ms0 : List Res} {y : Tys} {e : TypeId} {r r' : Int × List T} (he : r' = r) (h : Spec P k args pre Ms0 (fun x : {p : List HT × SH // p.1.map HT.er = r.2} => .tuple #[sl x.1.2 r.2.length, .int .i64 r.1]) (fun _ => []) (fun x => [A1d 6 e x.1.2 r.2.length (A2n (x.1.1.map HT.tp)), A4w (A6c y x.1.1)])) :
  Spec P k args pre Ms0 (fun x : {p : List HT × SH // p.1.map HT.er = r'.2} => .tuple #[sl x.1.2 r'.2.length, .int .i64 r'.1]) (fun _ => []) (fun x => [A1d 6 e x.1.2 r'.2.length (A2n (x.1.1.map HT.tp)), A4w (A6c y x.1.1)]) := by
 subst he
 exact h
section
variable {W : A4s}
mutual
theorem B7a : ∀ {t u : T} {d : Int}, A6n (A0w W) t d = .ok u → size u ≤ size t
 | .mk k n nm r ks ss, u, d, hu => by
  rw [A8j] at hu
  simp only [T.kind, T.n, T.name, T.r, T.kids, T.sys] at hu
  obtain ⟨o, h9, hu⟩ := A2m.A0q hu
  cases o with
  | inl v => exact absurd h9 B1o
  | inr p =>
   obtain ⟨ks', h10, hu⟩ := A2m.A0q hu
   obtain ⟨ss', h11, hu⟩ := A2m.A0q hu
   injection hu with hu
   subst hu
   rw [C4i, C4i]
   simp only [T.kids, T.sys]
   have h1 := C4e h10
   have h2 := B8b h11
   omega
theorem C4e {k : Int} : ∀ {ts us : List T} {i : Nat} {d : Int}, A5t (A0w W) k i ts d = .ok us → B8i us ≤ B8i ts
 | [], us, i, d, hu => by rw [A4n] at hu; injection hu with hu; subst hu; exact Nat.le_refl _
 | t :: ts, us, i, d, hu => by
  rw [A3k] at hu
  obtain ⟨c', _, hu⟩ := A2m.A0q hu
  obtain ⟨t', h2, hu⟩ := A2m.A0q hu
  obtain ⟨ts', h3, hu⟩ := A2m.A0q hu
  injection hu with hu
  subst hu
  have h4 := B7a h2
  have h5 := C4e h3
  simp only [B8i]
  omega
theorem C4d {k : Int} : ∀ {ts us : List T} {d : Int}, A4u (A0w W) k ts d = .ok us → B8i us ≤ B8i ts
 | [], us, d, hu => by rw [A4m] at hu; injection hu with hu; subst hu; exact Nat.le_refl _
 | t :: ts, us, d, hu => by
  rw [A3j] at hu
  obtain ⟨c', _, hu⟩ := A2m.A0q hu
  obtain ⟨t', h2, hu⟩ := A2m.A0q hu
  obtain ⟨ts', h3, hu⟩ := A2m.A0q hu
  injection hu with hu
  subst hu
  have h4 := B7a h2
  have h5 := C4d h3
  simp only [B8i]
  omega
theorem B8b {k : Int} : ∀ {bs us : List Br} {d : Int}, A6b (A0w W) k bs d = .ok us → C9o us ≤ C9o bs
 | [], us, d, hu => by rw [A4y] at hu; injection hu with hu; subst hu; exact Nat.le_refl _
 | .mk f ks :: bs, us, d, hu => by
  rw [A3u] at hu
  simp only [Br.A1s, Br.kids] at hu
  obtain ⟨o, h5, hu⟩ := A2m.A0q hu
  cases o with
  | none => have h6 := B8b hu; simp only [C9o]; omega
  | some g =>
   obtain ⟨ks', h7, hu⟩ := A2m.A0q hu
   obtain ⟨bs', h8, hu⟩ := A2m.A0q hu
   injection hu with hu
   subst hu
   have h1 := C4d h7
   have h2 := B8b h8
   simp only [C9o, Br.kids]
   omega
end
theorem E7r (hW : ∀ d f, A1m f → okE (W.form d f) ∧ okE (W.A1s d f)) {t u : T} {d : Int} (h : okT t) (hu : A6n (A0w W) t d = .ok u) : okT u := by
 refine C6l (A := A0w W) ?_ ?_ ?_ t d u h hu
 ·intro c k n nm r p _ hn hr ho
  obtain ⟨h1, h2⟩ := B9q.mp ho
  have h3 := hW c r hr
  have h4 : okE (W.row k c r) := by unfold A4s.row; split; exact h3.2; exact h3.1
  unfold okE at h4
  rw [h1] at h4
  exact ⟨by rw [h2]; exact hn, h4⟩
 ·intro c k n nm r u ho
  exact absurd ho B1o
 ·intro c f f' hr ho
  obtain ⟨h1, _⟩ := A3h.mp ho
  have h3 := (hW c f hr).2
  unfold okE at h3
  rw [h1] at h3
  exact h3
theorem F4d : size t0 = 1 := by decide
theorem C5z {t : T} {d : Int} : size (A3b W t d).2 ≤ size t := by
 unfold A3b
 cases h : A6n (A0w W) t d with
 | ok u => exact B7a h
 | bad e => show size t0 ≤ size t; rw [F4d]; exact size_pos' t
theorem B2o (hW : ∀ d f, A1m f → okE (W.form d f) ∧ okE (W.A1s d f)) {t : T} {d : Int} (h : okT t) : okT (A3b W t d).2 := by
 unfold A3b
 cases hu : A6n (A0w W) t d with
 | ok u => exact E7r hW h hu
 | bad e => exact B9v
end
theorem C4y {P : List Cl → Int → List Cl → EL} (hP : ∀ f i r, A1m f → A1m r → okE (P f i r)) {i d : Int} {r f : List Cl} (hf : A1m f) : okE (A2u P i r d f) := by
 unfold A2u
 split
 ·exact hf
 ·exact A9n fun _ => hP _ _ _ hf (B3m r 0 d)
theorem C2j (i : Int) (r : List Cl) : ∀ d f, A1m f → okE ((A8d i r).form d f) ∧ okE ((A8d i r).A1s d f) := fun d f hf =>
 ⟨C4y (fun f i r _ hr => D4i hr) hf, C4y (fun f i r _ hr => D4j hr) hf⟩
theorem D6v {i d : Int} {f : List Cl} (hf : A1m f) : okE (B1z i d f) := B2j fun c hc => C6j hc
theorem E9c (i : Int) : ∀ d f, A1m f → okE ((B1y i).form d f) ∧ okE ((B1y i).A1s d f) := fun d f hf => ⟨D6v hf, D6v hf⟩
def C1m (x : Int × T) (k : T → Int × T) : Int × T := if x.1 ≠ 0 then (x.1, t0) else k x.2
theorem A9p {x : Int × T} {k : T → Int × T} (h : x.1 ≠ 0) : C1m x k = (x.1, t0) := if_pos h
theorem B0o {x : Int × T} {k : T → Int × T} (h : x.1 = 0) : C1m x k = k x.2 := if_neg (by simp [h])
def B0s {α : Type} (g : α → T → Int × T) : List α → T → Int × T
 | [], t => (0, t)
 | a :: l, t => C1m (g a t) fun u => B0s g l u
section
variable {α : Type} {g : α → T → Int × T}
theorem C7t : ∀ {l m : List α} {t u : T}, B0s g l t = (0, u) → B0s g (l ++ m) t = B0s g m u
 | [], m, t, u, e => by
  rw [B0s, Prod.mk.injEq] at e
  rw [List.nil_append, e.2]
 | a :: l, m, t, u, e => by
  rw [B0s] at e
  by_cases h0 : (g a t).1 = 0
  ·rw [B0o h0] at e
   rw [List.cons_append, B0s, B0o h0]
   exact C7t e
  ·rw [A9p h0, Prod.mk.injEq] at e
   exact absurd e.1 h0
theorem D7r {l : List α} {d : α} {t u : T} {i : Nat} (hi : i < l.length) (e : B0s g (l.take i) t = (0, u)) (h0 : (g (l.getD i d) u).1 = 0) : B0s g (l.take (i + 1)) t = (0, (g (l.getD i d) u).2) := by
 rw [A0f (d := d) hi, C7t e, B0s, B0o h0, B0s]
theorem D1o {l : List α} {d : α} {t u : T} {i : Nat} (hi : i < l.length) (e : B0s g (l.take i) t = (0, u)) (h0 : (g (l.getD i d) u).1 ≠ 0) : B0s g l t = ((g (l.getD i d) u).1, t0) := by
 have e2 : l = l.take i ++ l.getD i d :: l.drop (i + 1) := by rw [A5s (d := d) hi, List.getElem_cons_drop, List.take_append_drop]
 rw [e2, C7t e, ← e2, B0s, A9p h0]
theorem D1p {l : List α} {t u : T} {i : Nat} (hi : i = l.length) (e : B0s g (l.take i) t = (0, u)) : B0s g l t = (0, u) := by
 rw [hi, List.take_length] at e
 exact e
theorem D7q : ∀ {l : List α} {t : T}, (B0s g l t).1 ≠ 0 → (B0s g l t).2 = t0
 | [], t, h => absurd rfl h
 | a :: l, t, h => by
  rw [B0s] at h ⊢
  by_cases h1 : (g a t).1 = 0
  ·rw [B0o h1] at h ⊢; exact D7q h
  ·rw [A9p h1]
theorem C5p {p : T → Prop} (h0 : p t0) (hg : ∀ a u, p u → p (g a u).2) : ∀ {l : List α} {t : T}, p t → p (B0s g l t).2
 | [], t, h => h
 | a :: l, t, h => by
  rw [B0s]
  by_cases h1 : (g a t).1 = 0
  ·rw [B0o h1]; exact C5p h0 hg (hg a t h)
  ·rw [A9p h1]; exact h0
end
def A1t (t : T) (i : Int) (r : List Cl) : Int := if A3v t ≠ 0 then A3v t else if (A5q i && A0h r) = false then 2 else 0
def A3d (t : T) (i : Int) (r : List Cl) : Int × T := if A1t t i r ≠ 0 then (A1t t i r, t0) else A3b (A8d i r) t 0
def A1p (t : T) (i : Int) (r : List Cl) : Int × T := if A1t t i r ≠ 0 then (A1t t i r, t0) else if (A0k r i 1).1 ≠ 0 then ((A0k r i 1).1, t0) else C1m (A3b (A8d i (A0k r i 1).2) t 0) fun x => A3b (B1y i) x 0
theorem B0t {t : T} {i : Int} {r : List Cl} (h : A1t t i r = 0) : A3v t = 0 ∧ (0 ≤ i ∧ i < 24) ∧ A0h r = true := by
 unfold A1t at h
 split at h
 ·rename_i h1; exact absurd h h1
 ·rename_i h1
  split at h
  ·cases h
  ·rename_i h2
   simp only [Bool.not_eq_false, Bool.and_eq_true] at h2
   refine ⟨Decidable.not_not.mp h1, ?_, h2.2⟩
   have h3 := h2.1
   unfold A5q at h3
   simpa using h3
def B1f (r : List Cl) (l : List Int) (t : T) : Int × T := B0s (fun i u => A3b (A8d i r) u 0) l t
abbrev EP : Type := Nat × List Cl × SH
def B4o (p : EP) : List Value := [.int .u32 (p.1 : Int), sl p.2.2 p.2.1.length]
abbrev epE (p : EP) : Fact := CL p.2.1 p.2.2
def ep0 : EP := (0, [], none, 0)
abbrev ENF (l : List EP) (a : SH) : Fact := E7o 2 32 B4o epE ep0 l a
def F6l (l : List EP) (t : T) : Int × T := B0s (fun (p : EP) u => B1f p.2.1 (A0g p.1) u) l t
def A1z (t : T) (c : Cl) : Int × T := if A3v t ≠ 0 then (A3v t, t0) else if single c = false then (2, t0) else C1m (B1f [cl0] (A0g c.pos) t) fun u => B1f [] (A0g c.neg) u
theorem D2c {c : Cl} {a : SH} {t : T} : F6l [(c.pos, [cl0], a), (c.neg, [], none, 0)] t = C1m (B1f [cl0] (A0g c.pos) t) fun u => B1f [] (A0g c.neg) u := by
 unfold F6l
 simp only [B0s]
 congr 1
 funext u
 by_cases h : (B1f [] (A0g c.neg) u).1 = 0
 ·rw [B0o h]; exact Prod.ext h.symm rfl
 ·rw [A9p h]
  unfold B1f at h ⊢
  refine Prod.ext rfl ?_
  show t0 = _
  exact (D7q h).symm
theorem D0j {r : List Cl} {l : List Int} {t : T} (h : okT t) : okT (B1f r l t).2 := C5p B9v (fun i u hu => B2o (C2j i r) hu) h
section
variable {P : Program} [Tab P] {f : FuncId} {R : Ending → World → Prop} {B : A6z} {n : Fz} {K : List Item} {ops : Array Oper} {l : List Nat} {σ : Nat → Value} {Γ : List Fact} {Ms : List Res} {dst : Option Tmp} {ty : TypeId} {x : Operand}
theorem F9e {t : TypeId} {l' : List (Nat × Nat)} {bt bk o i' : Nat} {a : SH} {zv : Value} {ls : List EP} (k_ : RgT P f R B n K ops l (A1u σ dst (.agg (B4o (ls.getD i' ep0)).toArray)) Γ Ms) (hF : ENF ls a ∈ Γ := by repeat (first | exact List.mem_cons_self | apply List.mem_cons_of_mem))
  (hx : ev σ x = .pointer (some ⟨bk, o + i' * 2, none⟩) := by exact wn_) (ha : a.1 = some ⟨bk, o, none⟩ := by assumption) (hu : Tab.lay P t = some l' := by rfl) (hi : Tab.inf P t = some (2, bt, zv) := by rfl) (hlt : i' < ls.length := by first | omega | (simp; omega)) (hd : A0t n dst = true := by rfl) : OpT P f R B n K ops l (opr dst (.load t x) ty) σ Γ Ms :=
 A7x (F5w (F := B4o) (fun _ => rfl) hx hF ha hu hi hlt) hd k_
end
theorem Spec.F0z {P : Program} {k : FuncId} {args : Array Value} {pre L : List Fact} {G : Fact} {Ms0 : List Res} {X : Type} {val : X → Value} {N : X → List Fact} {Ms1 : X → List Res} (hp : ∀ F, F ∈ pre → F ∈ G :: L) (h : Spec P k args pre Ms0 val N Ms1) : Spec P k args [B6u L, G] Ms0 val N Ms1 := fun ok w hok hs =>
 h ok w hok ⟨hs.chg, fun F hF => by
  rcases List.mem_cons.mp (hp F hF) with e | e
  ·subst e; exact hs.facts _ (List.mem_cons_of_mem _ List.mem_cons_self)
  ·exact hs.facts (B6u L) List.mem_cons_self F e, hs.res, hs.lt, hs.disj⟩
theorem Spec.E1r {P : Program} {k : FuncId} {args : Array Value} {pre L : List Fact} {G : Fact} {Ms0 : List Res} {X : Type} {val : X → Value} {N : X → List Fact} {Ms1 : X → List Res} (hL : ∀ F, F ∈ L → F ∈ pre) (hG : G ∈ pre) (h : Spec P k args [B6u L, G] Ms0 val N Ms1) : Spec P k args pre Ms0 val N Ms1 := fun ok w hok hs =>
 h ok w hok ⟨hs.chg, fun F hF => by
  rcases List.mem_cons.mp hF with e | e
  ·subst e; exact fun F' hF' => hs.facts F' (hL F' hF')
  ·rw [List.mem_singleton] at e; subst e; exact hs.facts _ hG, hs.res, hs.lt, hs.disj⟩
theorem St.G3v {B : A6z} {Γ : List Fact} {Ms : List Res} {w : World} {e : TypeId} {b : Nat} {p q : EP} (hs : St B Γ (A1o b (B4o p ++ B4o q) e :: Ms) w) {hBp : Prop} (hB : hBp) (hF : epE p ∈ Γ) (hG : epE q ∈ Γ) : St B (ENF [p, q] (some ⟨b, 0, Option.none⟩, 2) :: Γ) Ms w := by
 have h1 := ((hs.A5o (sz := 2) (m := 2) rfl de_).E7c epE).D2y (x := p) List.mem_cons_self (List.mem_cons_of_mem _ hF)
 have h2 := h1.D2y (x := q) List.mem_cons_self (List.mem_cons_of_mem _ (List.mem_cons_of_mem _ hG))
 exact (h2.C1q (F := B4o) (E := epE) (d := ep0) (bt := 32) (l := [p, q]) (fun _ => rfl) hB List.mem_cons_self sp_ rfl de_).less sx_
end Go.Hy
namespace Go.Hy
open Go Go.ChangeShapes Go.WideShapes Go.RowKit Go.Shelf Go.Proofs
theorem C2v {C : Checked} {os : Os} {f : FuncId} {fn : Func} {s : ChangeSpec} {conds : List PathCond} {ts : List TypeId} {tb : TypeId} {H : Type} {enc : TypeId × Value → H} {L : List (String × DataW Unit)}
  (own : ownKnob C.prog.godebug = none) (started : os.Started) (noInit : C.prog.inits.idxOf? f = none) (hfn : C.prog.funcs[f]? = some fn)
  (witness : ∃ (w : World) (tape : Tape) (i : Input), w.os = os ∧ (w.forCall tape i).Shaped C.prog ∧ i.vars = [] ∧ Input.okWide C.prog (w.forCall tape i) .any w.heap.size f i ∧
   ((s.pre enc C.prog fn conds false (w.forCall tape i).memory i.args ∧ laidMetH C.prog L (w.forCall tape i).memory) ∧ sizedMet enc C.prog fn (OpenSpec.ofChange s) false (w.forCall tape i).memory i.args) ∧ Assume.holds {} C.prog (lone (Frame.enter C.prog f i.args .normal) [] (w.forCall tape i)))
  (laid : laidOutB C.prog = true) (hps : fn.params.toList = ts) (hread : ts.all (fun t => C.prog.readableRec t && decide (t < C.prog.types.size)) = true) (hres : fn.resultTypes = #[tb]) (hbool : C.prog.underlying tb = some .bool) (hvars : s.vars = [])
  (hsays : ∀ ds : List (DataW H), ds.length = ts.length → s.fn H ds = { results := [.lit (.bool true)], args := ds })
  (hcall : ∀ (W : World) (base : Nat) (args : Array Value) (ds : List (DataW H)) (p : List MemPlace), (∀ (j : Nat) t v, ts[j]? = some t → args[j]? = some v → Value.okWide C.prog W .any base t v) →
   DataW.TrodAll enc C.prog W 0 (fun _ => true) true ts args.toList ds p → (∀ x, x ∈ DataW.weightsEach C.prog ts ds → x ≤ reach) → laidMetH C.prog L W →
   Calls C.prog f args W fun e W' => e = .returned (.bool true) ∧ Below W.heap.size W W') :
  ReturnsInHanded {} C os f .any (fun w args => (s.pre enc C.prog fn conds false w args ∧ laidMetH C.prog L w) ∧ sizedMet enc C.prog fn (OpenSpec.ofChange s) false w args) (s.post enc C.prog fn false true false false) := by
 refine returnsInHanded_of_change_and (X := fun w _ => laidMetH C.prog L w) (fun _ _ _ hh h => h.of_heap hh) own started noInit hfn witness ?_
 intro W base args ds gs before hval hW hcnd hwt hL _
 have hW' := hW
 obtain ⟨p, q, hA, hV, rfl, hfz, hnd⟩ := hW
 rw [hvars] at hV
 obtain ⟨rfl, rfl⟩ := trodVars_none hV
 rw [hps] at hA hwt
 have hlen : ∀ {ts : List TypeId} {vs : List Value} {ds : List (DataW H)} {ps : List MemPlace}, DataW.TrodAll enc C.prog W 0 (fun _ => true) true ts vs ds ps → ds.length = ts.length := by
  intro ts
  induction ts with
  | nil => intro vs ds ps h; obtain ⟨_, rfl, _⟩ := trodAll_nil h; rfl
  | cons t ts ih =>
   intro vs ds ps h
   obtain ⟨v, vs1, d, ds1, a, b, rfl, rfl, rfl, _, h2⟩ := trodAll_cons h
   simp [ih h2]
 have hvt : s.plain.varTypes C.prog = [] := by
  have : s.plain.vars = [] := hvars
  unfold DataSpec.varTypes; rw [this]; rfl
 have hw2 : ∀ x, x ∈ DataW.weightsEach C.prog ts ds → x ≤ reach := by
  intro x hx
  rw [List.append_nil, hvt, List.append_nil] at hwt
  have := List.all_eq_true.mp hwt x hx
  exact of_decide_eq_true this
 refine (hcall W base args ds p (fun j t v ht hv => hval j t v (by rw [← Array.getElem?_toList, hps]; exact ht) hv) hA hw2 hL).mono ?_
 intro e W' ⟨he, hb⟩
 have hlt : ∀ x ∈ p, x.block < W.heap.size := fun x hx => hW'.lt x (by simpa using hx)
 refine ⟨.bool true, he, ds, [], p ++ [], [], p, [], hW', ?_, ?_, ?_, hb.frame _, fun h => by cases h⟩
 ·rw [List.append_nil, hsays ds (hlen hA), hres]
  exact ⟨[], [], ⟨1, by simp [DataW.trod, Value.cells, hbool]⟩, rfl, rfl⟩
 ·rw [List.append_nil, hsays ds (hlen hA), hps]
  refine B7c laid hb (fun t ht => ?_) hA hlt
  have := List.all_eq_true.mp hread t ht
  simpa using this
 ·rw [List.append_nil, hsays ds (hlen hA), hvars]
  rfl
theorem E7z {P : Program} {W : World} {nm : String} {t e : TypeId} {tab : List Nat} (hg : P.globalNamed nm = some 0) (ht : (P.globals[0]?).map (·.type) = some t) (hu : P.underlying t = some (.array tab.length e)) (he : P.underlying e = some (.int .u8)) (hc : P.cellsOf e = 1) (hc2 : P.cellsOf t = tab.length) (hpos : 0 < tab.length)
  (hp : ([(nm, (DataW.agg (tab.map fun (v : Nat) => .lit (.int .u8 (v : Int))) : DataW Unit))].all fun x => x.2.handleName?.isNone) = true) (h : laidMetH P [(nm, .agg (tab.map fun (v : Nat) => .lit (.int .u8 (v : Int))))] W) : TabAt 0 tab W ∧ 0 < W.heap.size := by
 rw [MakeChecks.laidMetH_plain _ _ _ hp] at h
 obtain ⟨ps, ⟨g0, t0, cs0, f0, p0, q0, hg0, ht0, hv0, hd0, _⟩, _⟩ := h
 obtain rfl := u_ hg hg0
 obtain rfl := u_ ht ht0
 obtain ⟨xs, m1, rfl, hx1, hlen, hn3, hel⟩ := DataW.trod_array hu hd0
 simp only [Prod.mk.injEq, DataW.agg.injEq] at hx1
 have hcell : ∀ j, j < tab.length → W.cell? ⟨0, j, none⟩ = some (.int .u8 (tab.getD j 0)) := by
  intro j hj
  have h1 := hel j hj
  rw [hc, Nat.mul_one, List.getElem?_eq_getElem oo_] at h1
  obtain ⟨n, e1, e2, _⟩ := DataW.trod_int he h1
  have h2 := World.var?_cell hg0 hv0 j
  have h3 : cs0[j]? = some (.int .u8 n) := by
   have h4 := congrArg (fun l => l[0]?) e1
   simp only [List.getElem?_take, List.getElem?_drop, List.getElem?_cons_zero] at h4
   simpa using h4
  rw [h2, h3]
  have h5 : (tab.map fun (v : Nat) => (DataW.lit (.int .u8 (v : Int)) : DataW Unit))[j]? = (xs.map (·.1))[j]? := by rw [hx1.1]
  rw [List.getElem?_map, List.getElem?_map, List.getElem?_eq_getElem hj, List.getElem?_eq_getElem (show j < xs.length by omega)] at h5
  simp only [Option.map_some, Option.some.injEq] at h5
  rw [e2] at h5
  simp only [DataW.lit.injEq, Lit.int.injEq, true_and] at h5
  rw [List.getD_eq_getElem?_getD, List.getElem?_eq_getElem hj]
  simp [← h5]
 refine ⟨hcell, ?_⟩
 have h6 := hcell 0 hpos
 refine Nat.lt_of_not_le fun hz => ?_
 unfold World.cell? at h6
 rw [Array.getElem?_eq_none (show W.heap.size ≤ 0 from hz)] at h6
 simp at h6
theorem E8a {W : World} {tab : List Nat} (h : TabAt 0 tab W ∧ 0 < W.heap.size) : (At 0 0 (tab.map fun (v : Nat) => Value.int .u8 (v : Int))).f (okw W) W := by
 refine ⟨h.2, fun j v hj => ?_⟩
 rw [List.getElem?_map] at hj
 cases hq : tab[j]? with
 | none => rw [hq] at hj; cases hj
 | some k =>
  rw [hq] at hj
  injection hj with hj
  subst hj
  have hlt : j < tab.length := by
   refine Nat.lt_of_not_le fun hn => ?_
   rw [List.getElem?_eq_none hn] at hq
   cases hq
  have h1 := h.1 j hlt
  rw [List.getD_eq_getElem?_getD, hq] at h1
  rw [Nat.zero_add]
  exact h1
end Go.Hy
namespace Go.Hy
abbrev Wd : Type := Nat → Prop
def B4w (c : Cl) (P N : Wd) : Prop := (∀ i, c.pos.testBit i = true → P i) ∧ ∀ i, c.neg.testBit i = true → N i
def sat (l : List Cl) (P N : Wd) : Prop := ∃ c, c ∈ l ∧ B4w c P N
def B2a (s : Nat) : Wd := fun i => s.testBit i = true
def C8f (P N : Wd) : Prop := ∀ i, ¬ (P i ∧ N i)
theorem F2p {a b : Nat} : a ||| b = a ↔ ∀ i, b.testBit i = true → a.testBit i = true := by
 constructor
 ·intro h i hi
  rw [← h, Nat.testBit_or, hi, Bool.or_true]
 ·intro h
  refine Nat.eq_of_testBit_eq fun i => ?_
  rw [Nat.testBit_or]
  cases hb : b.testBit i with
  | false => simp
  | true => rw [h i hb]; rfl
theorem B0c {a b : Cl} : below a b = true ↔ B4w b (B2a a.pos) (B2a a.neg) := by
 unfold below B4w B2a
 rw [Bool.and_eq_true, decide_eq_true_eq, decide_eq_true_eq, F2p, F2p]
theorem C1u (c : Cl) : B4w c (B2a c.pos) (B2a c.neg) := ⟨fun i h => h, fun i h => h⟩
theorem B9n {a b : Cl} {P N : Wd} (h : below a b = true) (hs : B4w a P N) : B4w b P N := by
 have h1 := B0c.mp h
 exact ⟨fun i hi => hs.1 i (h1.1 i hi), fun i hi => hs.2 i (h1.2 i hi)⟩
theorem E0v (c : Cl) : below c c = true := B0c.mpr (C1u c)
theorem C3n {a b c : Cl} (h : below a b = true) (h2 : below b c = true) : below a c = true := B0c.mpr (B9n h2 (B0c.mp h))
theorem E0x {a b : Cl} (h : below a b = true) (h2 : below b a = true) : a = b := by
 have h1 := B0c.mp h
 have h3 := B0c.mp h2
 unfold B4w B2a at h1 h3
 have e1 : a.pos = b.pos := Nat.eq_of_testBit_eq fun i => by
  cases ha : a.pos.testBit i with
  | true => exact (h3.1 i ha).symm
  | false => cases hb : b.pos.testBit i with
   | false => rfl
   | true => rw [h1.1 i hb] at ha; cases ha
 have e2 : a.neg = b.neg := Nat.eq_of_testBit_eq fun i => by
  cases ha : a.neg.testBit i with
  | true => exact (h3.2 i ha).symm
  | false => cases hb : b.neg.testBit i with
   | false => rfl
   | true => rw [h1.2 i hb] at ha; cases ha
 cases a; cases b; simp_all
theorem C7k {l : List Cl} {c : Cl} (h : A2b l c = true) : ∃ d, d ∈ l ∧ c ≠ d ∧ below c d = true := by
 unfold A2b at h
 obtain ⟨d, hd, h2⟩ := List.any_eq_true.mp h
 rw [Bool.and_eq_true] at h2
 exact ⟨d, hd, by simpa using h2.1, h2.2⟩
theorem B6l {l : List Cl} : ∀ (n : Nat) (c : Cl), c.pos + c.neg ≤ n → c ∈ l → ∃ d, d ∈ A3x l ∧ below c d = true
 | n, c, hn, hc => by
  cases h : A2b l c with
  | false => exact ⟨c, A4t.mpr ⟨hc, h⟩, E0v c⟩
  | true =>
   obtain ⟨d, hd, hne, hb⟩ := C7k h
   have h1 : c.pos ||| d.pos = c.pos ∧ c.neg ||| d.neg = c.neg := by
    unfold below at hb
    rw [Bool.and_eq_true, decide_eq_true_eq, decide_eq_true_eq] at hb
    exact hb
   have h2 : d.pos ≤ c.pos := by have := Nat.right_le_or (n := c.pos) (m := d.pos); omega
   have h3 : d.neg ≤ c.neg := by have := Nat.right_le_or (n := c.neg) (m := d.neg); omega
   have h4 : d.pos + d.neg < c.pos + c.neg := by
    refine Nat.lt_of_le_of_ne oo_ fun he => hne ?_
    have e1 : c.pos = d.pos := by omega
    have e2 : c.neg = d.neg := by omega
    cases c; cases d; simp_all
   obtain ⟨e, he, h5⟩ := B6l (d.pos + d.neg) d (Nat.le_refl _) hd
   exact ⟨e, he, C3n hb h5⟩
termination_by n c => c.pos + c.neg
theorem C9v {l : List Cl} {P N : Wd} : sat (A3x l) P N ↔ sat l P N := by
 constructor
 ·rintro ⟨c, hc, h⟩; exact ⟨c, (A4t.mp hc).1, h⟩
 ·rintro ⟨c, hc, h⟩
  obtain ⟨d, hd, hb⟩ := B6l _ c (Nat.le_refl _) hc
  exact ⟨d, hd, B9n hb h⟩
theorem A7r {l : List Cl} {P N : Wd} (h : (A0p l).1 = 0) : sat (A0p l).2 P N ↔ sat l P N := by
 rcases A6f l with ⟨_, _, h2, _⟩ | h2 | h2
 ·rw [h2]; exact C9v
 ·rw [h2] at h; cases h
 ·rw [h2] at h; cases h
theorem D0i {l m : List Cl} (Q : Wd → Wd → Prop) (hl : ∀ c, c ∈ l → Q (B2a c.pos) (B2a c.neg)) (hm : ∀ c, c ∈ m → Q (B2a c.pos) (B2a c.neg)) (h : ∀ P N, Q P N → (sat l P N ↔ sat m P N)) : A3x l = A3x m := by
 have half : ∀ {l m : List Cl}, (∀ c, c ∈ l → Q (B2a c.pos) (B2a c.neg)) → (∀ c, c ∈ m → Q (B2a c.pos) (B2a c.neg)) → (∀ P N, Q P N → (sat l P N ↔ sat m P N)) → ∀ x, x ∈ A3x l → x ∈ A3x m := by
  intro l m hl hm h x hx
  obtain ⟨h1, h2⟩ := A4t.mp hx
  have key : ∀ d, d ∈ m → below x d = true → x = d := by
   intro d hd hb
   obtain ⟨e, he, hse⟩ := (h _ _ (hm d hd)).mpr ⟨d, hd, C1u d⟩
   have hb2 : below d e = true := B0c.mpr hse
   rcases A9v.mp h2 e he with h3 | h3
   ·subst h3; exact E0x hb hb2
   ·rw [C3n hb hb2] at h3; cases h3
  obtain ⟨d, hd, hsd⟩ := (h _ _ (hl x h1)).mp ⟨x, h1, C1u x⟩
  have hxd := key d hd (B0c.mpr hsd)
  refine A4t.mpr ⟨hxd ▸ hd, A9v.mpr fun e he => ?_⟩
  cases hb : below x e with
  | false => exact .inr rfl
  | true => exact .inl (key e he hb)
 exact B8h (A8o l) (A8o m) fun x => ⟨half hl hm h x, half hm hl (fun P N hq => (h P N hq).symm) x⟩
theorem D9y {l m : List Cl} (Q : Wd → Wd → Prop) (r1 : l.all A0u = true) (r2 : m.all A0u = true) (hl : ∀ c, c ∈ l → Q (B2a c.pos) (B2a c.neg)) (hm : ∀ c, c ∈ m → Q (B2a c.pos) (B2a c.neg)) (h : ∀ P N, Q P N → (sat l P N ↔ sat m P N)) : A0p l = A0p m := by
 unfold A0p
 rw [r1, r2, D0i Q hl hm h]
theorem A8t {l : List Cl} (h : A0h l = true) : l.all A0u = true := by
 unfold A0h at h
 simp only [Bool.and_eq_true] at h
 exact h.1.1.1
theorem B7u {c : Cl} : A6s c = false ↔ C8f (B2a c.pos) (B2a c.neg) := by
 unfold A6s C8f B2a
 rw [decide_eq_false_iff_not, Decidable.not_not]
 constructor
 ·rintro h i ⟨h1, h2⟩
  have h3 : (c.pos &&& c.neg).testBit i = true := by rw [Nat.testBit_and, h1, h2]; rfl
  rw [h, Nat.zero_testBit] at h3
  cases h3
 ·intro h
  refine Nat.eq_of_testBit_eq fun i => ?_
  rw [Nat.testBit_and, Nat.zero_testBit]
  cases h1 : c.pos.testBit i with
  | false => rfl
  | true => cases h2 : c.neg.testBit i with
   | false => rfl
   | true => exact absurd ⟨h1, h2⟩ (h i)
theorem A2q {l : List Cl} (h : A0d l = true) : A0h l = true ∧ ∀ c, c ∈ l → A6s c = false := by
 unfold A0d at h
 rw [Bool.and_eq_true, Bool.not_eq_true'] at h
 refine ⟨h.1, fun c hc => ?_⟩
 cases hq : A6s c with
 | false => rfl
 | true => rw [List.any_eq_true.mpr ⟨c, hc, hq⟩] at h; cases h.2
theorem B2n {l : List Cl} (h : A0h l = true) (h2 : ∀ c, c ∈ l → A6s c = false) : A0d l = true := by
 unfold A0d
 rw [Bool.and_eq_true, Bool.not_eq_true', h]
 refine ⟨rfl, ?_⟩
 cases hq : l.any A6s with
 | false => rfl
 | true => obtain ⟨c, hc, h3⟩ := List.any_eq_true.mp hq; rw [h2 c hc] at h3; cases h3
section
variable {f g l : List Cl} {P N : Wd} {a b c : Cl}
theorem E2k : ¬ sat [] P N := by rintro ⟨c, hc, _⟩; cases hc
theorem B8m : sat (f ++ g) P N ↔ sat f P N ∨ sat g P N := by
 unfold sat
 simp only [List.mem_append]
 constructor
 ·rintro ⟨c, h | h, h2⟩
  ·exact .inl ⟨c, h, h2⟩
  ·exact .inr ⟨c, h, h2⟩
 ·rintro (⟨c, h, h2⟩ | ⟨c, h, h2⟩)
  ·exact ⟨c, .inl h, h2⟩
  ·exact ⟨c, .inr h, h2⟩
theorem B2d : sat [c] P N ↔ B4w c P N := by
 unfold sat
 constructor
 ·rintro ⟨d, hd, h⟩; rw [List.mem_singleton] at hd; subst hd; exact h
 ·intro h; exact ⟨c, List.mem_singleton.mpr rfl, h⟩
theorem E8h : B4w cl0 P N := ⟨fun i hi => by simp [cl0] at hi, fun i hi => by simp [cl0] at hi⟩
theorem F4i : sat [cl0] P N := B2d.mpr E8h
theorem C9w : B4w (A4q a b) P N ↔ B4w a P N ∧ B4w b P N := by
 unfold B4w A4q
 simp only [Nat.testBit_or, Bool.or_eq_true]
 constructor
 ·rintro ⟨h1, h2⟩; exact ⟨⟨fun i hi => h1 i (.inl hi), fun i hi => h2 i (.inl hi)⟩, fun i hi => h1 i (.inr hi), fun i hi => h2 i (.inr hi)⟩
 ·rintro ⟨h1, h2⟩; exact ⟨fun i hi => hi.elim (h1.1 i) (h2.1 i), fun i hi => hi.elim (h1.2 i) (h2.2 i)⟩
theorem B7f : sat (B0h f g) P N ↔ sat f P N ∧ sat g P N := by
 unfold sat B0h
 simp only [List.mem_flatMap, List.mem_map]
 constructor
 ·rintro ⟨c, ⟨a, ha, b, hb, rfl⟩, h⟩
  have h2 := C9w.mp h
  exact ⟨⟨a, ha, h2.1⟩, b, hb, h2.2⟩
 ·rintro ⟨⟨a, ha, h1⟩, b, hb, h2⟩
  exact ⟨_, ⟨a, ha, b, hb, rfl⟩, C9w.mpr ⟨h1, h2⟩⟩
theorem C6s (hw : C8f P N) : sat (A6k l) P N ↔ sat l P N := by
 unfold sat A6k
 constructor
 ·rintro ⟨c, hc, h⟩; exact ⟨c, (List.mem_filter.mp hc).1, h⟩
 ·rintro ⟨c, hc, h⟩
  refine ⟨c, List.mem_filter.mpr ⟨hc, ?_⟩, h⟩
  rw [Bool.not_eq_true', B7u]
  rintro i ⟨h1, h2⟩
  exact hw i ⟨h.1 i h1, h.2 i h2⟩
end
theorem D8b {i : Int} {j : Nat} : (A7p i).testBit j = true ↔ (0 ≤ i ∧ i < 24) ∧ (j : Int) = i := by
 unfold A7p
 split
 ·rename_i h
  rw [Nat.testBit_two_pow, decide_eq_true_eq]
  omega
 ·rename_i h
  rw [Nat.zero_testBit]
  constructor
  ·intro h2; cases h2
  ·rintro ⟨h2, _⟩; exact absurd h2 h
theorem A6d {s : Nat} {i : Int} {j : Nat} : (A0m s i).testBit j = true ↔ j < 24 ∧ s.testBit j = true ∧ (j : Int) ≠ i := by
 unfold A0m
 split
 ·rename_i h
  rw [A7k, A5e, Nat.testBit_two_pow]
  simp only [Bool.and_eq_true, decide_eq_true_eq, Bool.not_eq_true', decide_eq_false_iff_not]
  constructor
  ·rintro ⟨⟨_, h2, h3⟩, h4⟩; exact ⟨h2, h3, by omega⟩
  ·rintro ⟨h1, h2, h3⟩; exact ⟨⟨by omega, h1, h2⟩, by omega⟩
 ·rename_i h
  rw [A5e]
  simp only [Bool.and_eq_true, decide_eq_true_eq]
  constructor
  ·rintro ⟨h1, h2⟩; exact ⟨h1, h2, by omega⟩
  ·rintro ⟨h1, h2, _⟩; exact ⟨h1, h2⟩
theorem A9t {c : Cl} (h : A0u c = true) : (∀ i, c.pos.testBit i = true → i < 24) ∧ ∀ i, c.neg.testBit i = true → i < 24 := by
 obtain ⟨h1, h2⟩ := A2z.mp h
 have key : ∀ s i : Nat, s < 16777216 → s.testBit i = true → i < 24 := fun s i hs hi => by
  refine Decidable.byContradiction fun hn => ?_
  have h3 : s < 2 ^ i := Nat.lt_of_lt_of_le (show s < 2 ^ 24 by omega) (Nat.pow_le_pow_right oo_ oo_)
  rw [Nat.testBit_lt_two_pow h3] at hi
  cases hi
 exact ⟨fun i hi => key _ i h1 hi, fun i hi => key _ i h2 hi⟩
theorem E2l {c : Cl} {i : Int} {P N : Wd} (hc : A0u c = true) : B4w (A0j c i) P N ↔ (∀ j : Nat, c.pos.testBit j = true → (j : Int) ≠ i → P j) ∧ ∀ j : Nat, c.neg.testBit j = true → (j : Int) ≠ i → N j := by
 obtain ⟨h1, h2⟩ := A9t hc
 unfold B4w A0j
 simp only [A6d]
 exact ⟨fun h => ⟨fun j hj hn => h.1 j ⟨h1 j hj, hj, hn⟩, fun j hj hn => h.2 j ⟨h2 j hj, hj, hn⟩⟩, fun h => ⟨fun j hj => h.1 j hj.2.1 hj.2.2, fun j hj => h.2 j hj.2.1 hj.2.2⟩⟩
theorem A5w {s : Nat} {x : Int} : x ∈ A0g s ↔ 0 ≤ x ∧ x < 24 ∧ s.testBit x.toNat = true := A4f
theorem F4h {c : Cl} {P N : Wd} (hc : A0u c = true) : sat (E1d c) P N ↔ (∃ i, c.pos.testBit i = true ∧ N i) ∨ ∃ i, c.neg.testBit i = true ∧ P i := by
 obtain ⟨b1, b2⟩ := A9t hc
 unfold E1d
 rw [B8m]
 have one : ∀ (s : Nat) (hs : ∀ i, s.testBit i = true → i < 24) (mk : Nat → Cl) (Q : Wd) (hq : ∀ x : Int, 0 ≤ x → x < 24 → (B4w (mk (A7p x)) P N ↔ Q x.toNat)), sat ((A0g s).map fun i => mk (A7p i)) P N ↔ ∃ i, s.testBit i = true ∧ Q i := by
  intro s hs mk Q hq
  unfold sat
  simp only [List.mem_map]
  constructor
  ·rintro ⟨_, ⟨x, hx, rfl⟩, h⟩
   obtain ⟨x0, x1, x2⟩ := A5w.mp hx
   exact ⟨x.toNat, x2, (hq x x0 x1).mp h⟩
  ·rintro ⟨i, hi, h⟩
   have h3 := hs i hi
   exact ⟨_, ⟨(i : Int), A5w.mpr ⟨by omega, by omega, by simpa using hi⟩, rfl⟩, (hq (i : Int) oo_ oo_).mpr (by simpa using h)⟩
 have e1 := one c.pos b1 (fun s => ⟨0, s⟩) N (fun x x0 x1 => by
  unfold B4w
  simp only [Nat.zero_testBit, D8b]
  constructor
  ·intro h; exact h.2 x.toNat ⟨⟨x0, x1⟩, by omega⟩
  ·intro h; exact ⟨fun i hi => (by cases hi), fun i hi => (show i = x.toNat by omega) ▸ h⟩)
 have e2 := one c.neg b2 (fun s => ⟨s, 0⟩) P (fun x x0 x1 => by
  unfold B4w
  simp only [Nat.zero_testBit, D8b]
  constructor
  ·intro h; exact h.1 x.toNat ⟨⟨x0, x1⟩, by omega⟩
  ·intro h; exact ⟨fun i hi => (show i = x.toNat by omega) ▸ h, fun i hi => (by cases hi)⟩)
 exact or_congr e1 e2
theorem B2l {g : List Cl → Cl → EL} {L : List Cl} {I : List Cl → List Cl → Prop} (hs : ∀ pre c h, c ∈ L → I pre h → (g h c).1 = 0 → I (pre ++ [c]) (g h c).2) : ∀ (m pre h : List Cl), I pre h → (∀ c, c ∈ m → c ∈ L) → (A4c g h m).1 = 0 → I (pre ++ m) (A4c g h m).2
 | [], pre, h, hi, _, _ => by rw [List.append_nil]; exact hi
 | c :: m, pre, h, hi, hm, h0 => by
  rw [A4c] at h0 ⊢
  by_cases h1 : (g h c).1 = 0
  ·rw [A2k h1] at h0 ⊢
   have h2 := B2l hs m (pre ++ [c]) _ (hs pre c h (hm c List.mem_cons_self) hi h1) (fun d hd => hm d (List.mem_cons_of_mem _ hd)) h0
   rwa [List.append_assoc] at h2
  ·rw [A2g h1] at h0
   exact absurd h0 h1
theorem A3l {x : EL} {k : List Cl → EL} (h : (B1d x k).1 = 0) : x.1 = 0 ∧ (k x.2).1 = 0 ∧ B1d x k = k x.2 := by
 by_cases h1 : x.1 = 0
 ·rw [A2k h1] at h ⊢; exact ⟨h1, h, rfl⟩
 ·rw [A2g h1] at h; exact absurd h h1
def coW (P : Wd) : Wd := fun i => ¬ P i
theorem E2j {f : List Cl} {P N : Wd} (hf : ∀ c, c ∈ f → A0u c = true) (h : (B5s f).1 = 0) : sat (B5s f).2 P N ↔ ¬ sat f (coW N) (coW P) := by
 have h2 := B2l (g := A3c) (L := f) (I := fun pre h => ∀ P N, sat h P N ↔ ∀ c, c ∈ pre → ¬ B4w c (coW N) (coW P)) (fun pre c h hc hi h0 P N => by
  unfold A3c at h0 ⊢
  obtain ⟨a1, a2, a3⟩ := A3l h0
  rw [a3]
  unfold A9w at a2 ⊢
  rw [A7r a2, B7f, hi]
  unfold C4x at a1 ⊢
  rw [A7r a1, F4h (hf c hc)]
  simp only [List.mem_append, List.mem_singleton, or_imp, forall_and, forall_eq]
  refine and_congr Iff.rfl ?_
  unfold B4w coW
  constructor
  ·rintro (⟨i, hi, hn⟩ | ⟨i, hi, hn⟩) ⟨h1, h2⟩
   ·exact h1 i hi hn
   ·exact h2 i hi hn
  ·intro h1
   refine Classical.byContradiction fun h2 => h1 ⟨fun i hi hn => h2 (.inl ⟨i, hi, hn⟩), fun i hi hn => h2 (.inr ⟨i, hi, hn⟩)⟩) f [] [cl0] (fun P N => ⟨fun _ c hc => (by cases hc), fun _ => F4i⟩) (fun c hc => hc) h P N
 rw [List.nil_append] at h2
 unfold B5s
 rw [h2]
 unfold sat
 constructor
 ·rintro h3 ⟨c, hc, h4⟩; exact h3 c hc h4
 ·intro h3 c hc h4; exact h3 ⟨c, hc, h4⟩
def ovr (P : Wd) (i : Int) (A : Prop) : Wd := fun j => if (j : Int) = i then A else P j
theorem C0s {c : Cl} {i : Int} {P N : Wd} {A A' : Prop} (hc : A0u c = true) : B4w c (ovr P i A) (ovr N i A') ↔ B4w (A0j c i) P N ∧ (A4l c.pos i = true → A) ∧ (A4l c.neg i = true → A') := by
 obtain ⟨b1, b2⟩ := A9t hc
 rw [E2l hc]
 unfold B4w ovr A4l
 simp only [Bool.and_eq_true, decide_eq_true_eq]
 constructor
 ·rintro ⟨h1, h2⟩
  refine ⟨⟨fun j hj hn => ?_, fun j hj hn => ?_⟩, ?_, ?_⟩
  ·have := h1 j hj; rwa [if_neg hn] at this
  ·have := h2 j hj; rwa [if_neg hn] at this
  ·rintro ⟨⟨h3, h4⟩, h5⟩; have := h1 _ h5; rwa [if_pos oo_] at this
  ·rintro ⟨⟨h3, h4⟩, h5⟩; have := h2 _ h5; rwa [if_pos oo_] at this
 ·rintro ⟨⟨h1, h2⟩, h3, h4⟩
  refine ⟨fun j hj => ?_, fun j hj => ?_⟩
  ·split
   ·rename_i h; have := b1 j hj; exact h3 ⟨⟨by omega, by omega⟩, by rw [← h]; simpa using hj⟩
   ·rename_i h; exact h1 j hj h
  ·split
   ·rename_i h; have := b2 j hj; exact h4 ⟨⟨by omega, by omega⟩, by rw [← h]; simpa using hj⟩
   ·rename_i h; exact h2 j hj h
theorem D0f (c : Cl) (i : Int) : A0u (A0j c i) = true := A2z.mpr ⟨A4x _ _, A4x _ _⟩
theorem D3p {f r : List Cl} {i : Int} {P N : Wd} (h : (A1a f i r).1 = 0) : A0h f = true ∧ A0h r = true ∧ (0 ≤ i ∧ i < 24) ∧ (sat (A1a f i r).2 P N ↔ sat f (ovr P i (sat r P N)) (ovr N i (¬ sat r (coW N) (coW P)))) := by
 unfold A1a at h ⊢
 split at h
 ·cases h
 ·rename_i h1
  split at h
  ·cases h
  ·rename_i h2
   rw [if_neg h1, if_neg h2]
   simp only [Bool.not_eq_false, Bool.and_eq_true] at h1
   have h3 : 0 ≤ i ∧ i < 24 := by unfold A5q at h2; simpa using h2
   refine ⟨h1.1, h1.2, h3, ?_⟩
   have hr := A8t h1.2
   have hf := A8t h1.1
   have h4 := B2l (g := A2i i r) (L := f) (I := fun pre h => ∀ P N, sat h P N ↔ ∃ c, c ∈ pre ∧ B4w c (ovr P i (sat r P N)) (ovr N i (¬ sat r (coW N) (coW P)))) (fun pre c h hc hi h0 P N => by
    unfold A2i at h0 ⊢
    obtain ⟨a1, a2, a3⟩ := A3l h0
    rw [a3]
    obtain ⟨b1, b2, b3⟩ := A3l a2
    rw [b3]
    unfold A7h at b2 ⊢
    rw [A7r b2, B8m, hi]
    have hc24 := List.all_eq_true.mp hf c hc
    have e1 : ∀ P N, sat (A4e i r c).2 P N ↔ B4w (A0j c i) P N ∧ (A4l c.pos i = true → sat r P N) := by
     intro P N
     unfold A4e at a1 ⊢
     split
     ·rename_i h5
      rw [if_pos h5] at a1
      unfold A9w at a1 ⊢
      rw [A7r a1, B7f, B2d]
      exact ⟨fun h => ⟨h.1, fun _ => h.2⟩, fun h => ⟨h.1, h.2 h5⟩⟩
     ·rename_i h5
      rw [B2d]
      exact ⟨fun h => ⟨h, fun h6 => absurd h6 h5⟩, fun h => h.1⟩
    have e2 : sat (A8f i r c (A4e i r c).2).2 P N ↔ sat (A4e i r c).2 P N ∧ (A4l c.neg i = true → ¬ sat r (coW N) (coW P)) := by
     unfold A8f at b1 ⊢
     split
     ·rename_i h5
      rw [if_pos h5] at b1
      obtain ⟨d1, d2, d3⟩ := A3l b1
      rw [d3]
      unfold A9w at d2 ⊢
      rw [A7r d2, B7f, E2j (fun c hc => List.all_eq_true.mp hr c hc) d1]
      exact ⟨fun h => ⟨h.1, fun _ => h.2⟩, fun h => ⟨h.1, h.2 h5⟩⟩
     ·rename_i h5
      exact ⟨fun h => ⟨h, fun h6 => absurd h6 h5⟩, fun h => h.1⟩
    rw [e2, e1]
    simp only [List.mem_append, List.mem_singleton]
    constructor
    ·rintro (⟨d, hd, hs⟩ | hs)
     ·exact ⟨d, .inl hd, hs⟩
     ·exact ⟨c, .inr rfl, (C0s hc24).mpr ⟨hs.1.1, hs.1.2, hs.2⟩⟩
    ·rintro ⟨d, hd | hd, hs⟩
     ·exact .inl ⟨d, hd, hs⟩
     ·subst hd
      obtain ⟨q1, q2, q3⟩ := (C0s hc24).mp hs
      exact .inr ⟨⟨q1, q2⟩, q3⟩) f [] [] (fun P N => ⟨fun h => absurd h E2k, fun ⟨c, hc, _⟩ => (by cases hc)⟩) (fun c hc => hc) h P N
   rw [List.nil_append] at h4
   exact h4
theorem F1u {r : List Cl} {P N : Wd} (hw : C8f P N) (h : (ofF r).1 = 0) : sat (ofF r).2 P N ↔ sat r P N := by
 unfold ofF at h ⊢
 split at h
 ·rename_i h1
  rw [if_pos h1, A7r h, C6s hw]
 ·cases h
theorem D8w {r : List Cl} {P N : Wd} (hw : C8f P N) (h : (A1h r).1 = 0) : sat (A1h r).2 P N ↔ ¬ sat r (coW N) (coW P) := by
 unfold A1h at h ⊢
 obtain ⟨a1, a2, a3⟩ := A3l h
 rw [a3, F1u hw a2]
 unfold A6u at a1 ⊢
 split at a1
 ·rename_i h1
  rw [if_pos h1, E2j (fun c hc => List.all_eq_true.mp (A8t h1) c hc) a1]
 ·cases a1
theorem B7j {c : Cl} {x : List Cl} : B1g [c] x = A0p (A6k (x.map fun b => A4q c b)) := by
 unfold B1g
 simp
theorem B9o {c : Cl} {x : List Cl} {P N : Wd} : sat (x.map fun b => A4q c b) P N ↔ B4w c P N ∧ sat x P N := by
 have h := B7f (f := [c]) (g := x) (P := P) (N := N)
 rw [B2d] at h
 rw [← h]
 unfold B0h
 simp
theorem C5v {c : Cl} {i : Int} (h : A6s c = false) : A6s (A0j c i) = false := by
 rw [B7u] at h ⊢
 rintro j ⟨h1, h2⟩
 exact h j ⟨(A6d.mp h1).2.1, (A6d.mp h2).2.1⟩
theorem has_both {c : Cl} {i : Int} (h : A6s c = false) (h1 : A4l c.pos i = true) : A4l c.neg i = false := by
 cases h2 : A4l c.neg i with
 | false => rfl
 | true =>
  unfold A4l at h1 h2
  simp only [Bool.and_eq_true] at h1 h2
  exact absurd ⟨h1.2, h2.2⟩ (B7u.mp h _)
theorem E8g {c : Cl} {r : List Cl} {i : Int} {P N : Wd} (hw : C8f P N) (hcl : A6s c = false) (h : (A2l i r c).1 = 0) : sat (A2l i r c).2 P N ↔ B4w (A0j c i) P N ∧ (A4l c.pos i = true → sat r P N) ∧ (A4l c.neg i = true → ¬ sat r (coW N) (coW P)) := by
 unfold A2l at h ⊢
 split at h
 ·rename_i h1
  rw [if_pos h1]
  obtain ⟨a1, a2, a3⟩ := A3l h
  rw [a3]
  rw [B7j] at a2 ⊢
  rw [A7r a2, C6s hw, B9o, F1u hw a1]
  have h2 := has_both hcl h1
  exact ⟨fun h => ⟨h.1, fun _ => h.2, fun h3 => by rw [h2] at h3; cases h3⟩, fun h => ⟨h.1, h.2.1 h1⟩⟩
 ·rename_i h1
  rw [if_neg h1]
  split at h
  ·rename_i h2
   rw [if_pos h2]
   obtain ⟨a1, a2, a3⟩ := A3l h
   rw [a3]
   rw [B7j] at a2 ⊢
   rw [A7r a2, C6s hw, B9o, D8w hw a1]
   exact ⟨fun h => ⟨h.1, fun h3 => absurd h3 h1, fun _ => h.2⟩, fun h => ⟨h.1, h.2.2 h2⟩⟩
  ·rename_i h2
   rw [if_neg h2, B2d]
   exact ⟨fun h => ⟨h, fun h3 => absurd h3 h1, fun h3 => absurd h3 h2⟩, fun h => h.1⟩
theorem E4a {c : Cl} {r : List Cl} {i : Int} (hcl : A6s c = false) (h : (A2l i r c).1 = 0) : ∀ d, d ∈ (A2l i r c).2 → A6s d = false := by
 have key : ∀ x : List Cl, (B1g [A0j c i] x).1 = 0 → ∀ d, d ∈ (B1g [A0j c i] x).2 → A6s d = false := by
  intro x hx d hd
  rw [B7j] at hx hd
  have h2 := B0w hx hd
  unfold A6k at h2
  simpa using (List.mem_filter.mp h2).2
 unfold A2l at h ⊢
 split at h
 ·rename_i h1
  rw [if_pos h1]
  obtain ⟨a1, a2, a3⟩ := A3l h
  rw [a3]
  exact key _ a2
 ·rename_i h1
  rw [if_neg h1]
  split at h
  ·rename_i h2
   rw [if_pos h2]
   obtain ⟨a1, a2, a3⟩ := A3l h
   rw [a3]
   exact key _ a2
  ·rename_i h2
   rw [if_neg h2]
   intro d hd
   rw [List.mem_singleton] at hd
   subst hd
   exact C5v hcl
theorem C1t {f r : List Cl} {i : Int} (h : (A0v f i r).1 = 0) : A0d f = true ∧ A0h r = true ∧ (0 ≤ i ∧ i < 24) ∧ A0d (A0v f i r).2 = true ∧ ∀ P N, C8f P N → (sat (A0v f i r).2 P N ↔ sat f (ovr P i (sat r P N)) (ovr N i (¬ sat r (coW N) (coW P)))) := by
 unfold A0v at h ⊢
 split at h
 ·cases h
 ·rename_i h1
  rw [if_neg h1]
  simp only [Bool.not_eq_false, Bool.and_eq_true] at h1
  obtain ⟨⟨hf, hi⟩, hr⟩ := h1
  have h3 : 0 ≤ i ∧ i < 24 := by unfold A5q at hi; simpa using hi
  obtain ⟨hff, hfc⟩ := A2q hf
  have hf24 := A8t hff
  refine ⟨hf, hr, h3, ?_⟩
  have h4 := B2l (g := A2c i r) (L := f) (I := fun pre h => A0d h = true ∧ ∀ P N, C8f P N → (sat h P N ↔ ∃ c, c ∈ pre ∧ B4w c (ovr P i (sat r P N)) (ovr N i (¬ sat r (coW N) (coW P))))) (fun pre c h hc hi h0 => by
   unfold A2c at h0 ⊢
   obtain ⟨a1, a2, a3⟩ := A3l h0
   rw [a3]
   unfold A7h at a2 ⊢
   have hcl := hfc c hc
   refine ⟨B2n (A5m a2) fun d hd => ?_, fun P N hw => ?_⟩
   ·rcases List.mem_append.mp (B0w a2 hd) with hd | hd
    ·exact (A2q hi.1).2 d hd
    ·exact E4a hcl a1 d hd
   ·rw [A7r a2, B8m, hi.2 P N hw, E8g hw hcl a1]
    have hc24 := List.all_eq_true.mp hf24 c hc
    simp only [List.mem_append, List.mem_singleton]
    constructor
    ·rintro (⟨d, hd, hs⟩ | hs)
     ·exact ⟨d, .inl hd, hs⟩
     ·exact ⟨c, .inr rfl, (C0s hc24).mpr hs⟩
    ·rintro ⟨d, hd | hd, hs⟩
     ·exact .inl ⟨d, hd, hs⟩
     ·subst hd
      exact .inr ((C0s hc24).mp hs)) f [] [] ⟨by decide, fun P N _ => ⟨fun h => absurd h E2k, fun ⟨c, hc, _⟩ => (by cases hc)⟩⟩ (fun c hc => hc) h
  rw [List.nil_append] at h4
  exact h4
theorem E0e {f r : List Cl} {i : Int} (h : (A1a f i r).1 = 0) : A0h (A1a f i r).2 = true := by
 unfold A1a at h ⊢
 split at h
 ·cases h
 ·rename_i h1
  split at h
  ·cases h
  ·rename_i h2
   rw [if_neg h1, if_neg h2]
   exact B2l (g := A2i i r) (L := f) (I := fun pre h => A0h h = true) (fun pre c h hc hi h0 => by
    unfold A2i at h0 ⊢
    obtain ⟨a1, a2, a3⟩ := A3l h0
    rw [a3]
    obtain ⟨b1, b2, b3⟩ := A3l a2
    rw [b3]
    exact A5m b2) f [] [] de_ (fun c hc => hc) h
def shW (P : Wd) (f b : Int) : Wd := fun j => if (j : Int) < f then P j else P (j + b.toNat)
theorem C9x {c : Cl} {f b : Int} {P N : Wd} (h : (A1b c f b).1 = 0) : B4w (A1b c f b).2 P N ↔ B4w c (shW P f b) (shW N f b) := by
 obtain ⟨hr, h1, h2, h3⟩ := E6q h
 obtain ⟨b1, b2⟩ := A9t hr
 obtain ⟨f0, b0, _⟩ := B4g h1 0
 rw [h3]
 have key : ∀ (s : Nat) (hs : ∀ i, s.testBit i = true → i < 24) (hm : (A0o s f b).1 = 0) (Q : Wd), (∀ i, (A0o s f b).2.testBit i = true → Q i) ↔ ∀ i, s.testBit i = true → shW Q f b i := by
  intro s hs hm Q
  constructor
  ·intro h i hi
   unfold shW
   split
   ·rename_i h4; exact h i ((A9x hm i).mpr ⟨i, hs i hi, hi, .inl ⟨h4, rfl⟩⟩)
   ·rename_i h4; exact h _ ((A9x hm _).mpr ⟨i, hs i hi, hi, .inr ⟨by omega, by omega⟩⟩)
  ·intro h i hi
   obtain ⟨j, _, hj, h4⟩ := (A9x hm i).mp hi
   have h5 := h j hj
   unfold shW at h5
   rcases h4 with ⟨h4, h6⟩ | ⟨h4, h6⟩
   ·rw [if_pos h4] at h5; rw [h6]; exact h5
   ·rw [if_neg oo_] at h5; rw [show i = j + b.toNat by omega]; exact h5
 unfold B4w
 exact and_congr (key _ b1 h1 P) (key _ b2 h2 N)
theorem D6a {l : List Cl} {f b : Int} {P N : Wd} (h : (A0k l f b).1 = 0) : sat (A0k l f b).2 P N ↔ sat l (shW P f b) (shW N f b) := by
 obtain ⟨_, h2, h3⟩ := C3y h
 rw [h3] at h ⊢
 rw [A7r h]
 unfold sat
 simp only [List.mem_map]
 constructor
 ·rintro ⟨_, ⟨c, hc, rfl⟩, hs⟩; exact ⟨c, hc, (C9x (h2 c hc)).mp hs⟩
 ·rintro ⟨c, hc, hs⟩; exact ⟨_, ⟨c, hc, rfl⟩, (C9x (h2 c hc)).mpr hs⟩
theorem C3f {s : Nat} {i : Int} (h0 : 0 ≤ i) {k : Nat} : (A6a s i).testBit k = true ↔ ∃ j, j < 24 ∧ s.testBit j = true ∧ (((j : Int) < i ∧ k = j) ∨ (i < (j : Int) ∧ k + 1 = j)) := by
 unfold A6a
 split
 ·rename_i h
  rw [Nat.testBit_or, Nat.testBit_and, B3h, Nat.testBit_mul_two_pow, Nat.testBit_div_two_pow, A5e, A5e]
  simp only [Bool.or_eq_true, Bool.and_eq_true, decide_eq_true_eq]
  constructor
  ·rintro (⟨⟨h1, h2⟩, h3⟩ | ⟨h1, h2, h3⟩)
   ·exact ⟨k, h1, h2, .inl ⟨by omega, rfl⟩⟩
   ·exact ⟨_, h2, h3, .inr ⟨by omega, by omega⟩⟩
  ·rintro ⟨j, h1, h2, ⟨h3, h4⟩ | ⟨h3, h4⟩⟩
   ·subst h4; exact .inl ⟨⟨h1, h2⟩, by omega⟩
   ·refine .inr ⟨by omega, ?_⟩
    rw [show k - i.toNat + (i.toNat + 1) = j by omega]
    exact ⟨h1, h2⟩
 ·rename_i h
  rw [A5e]
  simp only [Bool.and_eq_true, decide_eq_true_eq]
  constructor
  ·rintro ⟨h1, h2⟩; exact ⟨k, h1, h2, .inl ⟨by omega, rfl⟩⟩
  ·rintro ⟨j, h1, h2, ⟨h3, h4⟩ | ⟨h3, h4⟩⟩
   ·subst h4; exact ⟨h1, h2⟩
   ·omega
theorem G2v (l : List Cl) : (A3x l).length ≤ l.length := by
 have := C6z l l.length
 rwa [D6i] at this
theorem C2u {l : List Cl} (h : l.all A0u = true) (h2 : l.length ≤ 64) : (A0p l).1 = 0 := by
 unfold A0p
 rw [if_neg (by simp [h]), if_neg (by have := G2v l; omega)]
theorem C6t {c : Cl} {i : Int} {P N : Wd} {A A' : Prop} (h : ∀ j : Nat, (c.pos ||| c.neg).testBit j = true → (j : Int) ≠ i) : B4w c (ovr P i A) (ovr N i A') ↔ B4w c P N := by
 unfold B4w ovr
 constructor
 ·rintro ⟨h1, h2⟩
  refine ⟨fun j hj => ?_, fun j hj => ?_⟩
  ·have := h1 j hj; rwa [if_neg (h j (by rw [Nat.testBit_or, hj]; rfl))] at this
  ·have := h2 j hj; rwa [if_neg (h j (by rw [Nat.testBit_or, hj, Bool.or_true]))] at this
 ·rintro ⟨h1, h2⟩
  refine ⟨fun j hj => ?_, fun j hj => ?_⟩
  ·rw [if_neg (h j (by rw [Nat.testBit_or, hj]; rfl))]; exact h1 j hj
  ·rw [if_neg (h j (by rw [Nat.testBit_or, hj, Bool.or_true]))]; exact h2 j hj
theorem F0c {f : List Cl} {i : Int} (hf : f.all A0u = true) (h : A4l (A5d f) i = false) {c : Cl} (hc : c ∈ f) (j : Nat) (hj : (c.pos ||| c.neg).testBit j = true) : (j : Int) ≠ i := by
 intro e
 subst e
 obtain ⟨b1, b2⟩ := A9t (List.all_eq_true.mp hf c hc)
 have hlt : j < 24 := by
  rw [Nat.testBit_or, Bool.or_eq_true] at hj
  exact hj.elim (b1 j) (b2 j)
 unfold A4l at h
 rw [decide_eq_true (show (0 : Int) ≤ (j : Int) by omega), decide_eq_true (show (j : Int) < 24 by omega)] at h
 simp only [Bool.true_and, Int.toNat_natCast] at h
 rw [E5z.mpr ⟨hlt, c, hc, hj⟩] at h
 cases h
theorem D6b {f : List Cl} {i : Int} {P N : Wd} {A A' : Prop} (hf : f.all A0u = true) (h : A4l (A5d f) i = false) : sat f (ovr P i A) (ovr N i A') ↔ sat f P N := by
 unfold sat
 exact exists_congr fun c => and_congr_right fun hc => C6t (fun j hj => F0c hf h hc j hj)
def uE : T := .mk 3 0 ⟨#[]⟩ [] [] []
def aE (t u : T) : T := .mk 6 0 ⟨#[]⟩ [] [t, u] []
def lpE (r : List Cl) : T := .mk 21 0 ⟨#[]⟩ r [] []
def hcE : T := .mk 15 0 ⟨#[]⟩ [] [uE, uE] [.mk [⟨1, 0⟩] [uE]]
def hcF : T := .mk 15 0 ⟨#[]⟩ [] [uE, uE] []
theorem F6k : A3d (lpE [⟨1, 0⟩]) 0 [⟨2, 0⟩] = (0, lpE [⟨2, 0⟩]) := by decide +kernel
theorem F0q : A1p (lpE [⟨1, 0⟩, ⟨2, 0⟩]) 0 [] = (0, lpE [⟨1, 0⟩]) := by decide +kernel
theorem E6a : A1z hcE ⟨0, 1⟩ = (0, hcF) := by decide +kernel
theorem C8b : size (lpE [⟨1, 0⟩]) = 1 ∧ size (lpE [⟨1, 0⟩, ⟨2, 0⟩]) = 1 ∧ size hcE = 4 := by decide +kernel
theorem C3h {t : T} {i : Int} {r : List Cl} (h : okT t) : okT (A3d t i r).2 := by
 unfold A3d
 split
 ·exact B9v
 ·exact B2o (C2j i r) h
theorem C9a {x : Int × T} {k : T → Int × T} (hx : okT x.2) (h : ∀ u, okT u → okT (k u).2) : okT (C1m x k).2 := by
 by_cases h1 : x.1 = 0
 ·rw [B0o h1]; exact h _ hx
 ·rw [A9p h1]; exact B9v
theorem C0f {t : T} {i : Int} {r : List Cl} (h : okT t) : okT (A1p t i r).2 := by
 unfold A1p
 split
 ·exact B9v
 ·split
  ·exact B9v
  ·exact C9a (B2o (C2j _ _) h) fun u hu => B2o (E9c i) hu
theorem C8c {t : T} {c : Cl} (h : okT t) : okT (A1z t c).2 := by
 unfold A1z
 split
 ·exact B9v
 ·split
  ·exact B9v
  ·exact C9a (D0j h) fun u hu => D0j hu
theorem D0g {a b : Cl} (h : A0u a = true) (h2 : A0u b = true) : A0u (A4q a b) = true := by
 obtain ⟨a1, a2⟩ := A2z.mp h
 obtain ⟨b1, b2⟩ := A2z.mp h2
 exact A2z.mpr ⟨Nat.or_lt_two_pow (n := 24) a1 b1, Nat.or_lt_two_pow (n := 24) a2 b2⟩
theorem D2v {f g : List Cl} (h : f.all A0u = true) (h2 : g.all A0u = true) : (B0h f g).all A0u = true := List.all_eq_true.mpr fun c hc => by
 obtain ⟨a, ha, hc⟩ := List.mem_flatMap.mp hc
 obtain ⟨b, hb, rfl⟩ := List.mem_map.mp hc
 exact D0g (List.all_eq_true.mp h a ha) (List.all_eq_true.mp h2 b hb)
theorem F6s {f g : List Cl} (h : f.all A0u = true) (h2 : g.all A0u = true) : (f ++ g).all A0u = true := by rw [List.all_append, h, h2]; rfl
theorem C5b {f : List Cl} (h : (B5s f).1 = 0) : A0h (B5s f).2 = true :=
 B2l (g := A3c) (L := f) (I := fun pre h => A0h h = true) (fun pre c h hc hi h0 => by
  unfold A3c at h0 ⊢
  obtain ⟨a1, a2, a3⟩ := A3l h0
  rw [a3]
  exact A5m a2) f [] [cl0] de_ (fun c hc => hc) h
theorem G1m {c : Cl} (h : A0u c = true) : A0h [c] = true := by
 unfold A0h
 simp [h, B4b, apart]
theorem B8x {k n : Int} {nm : ByteArray} {r : List Cl} (h : B2k k n nm r) : (k = 14 → A0d r = true) ∧ A0h r = true := by
 obtain ⟨_, _, h3, h4, h5, h6, h7⟩ := h
 refine ⟨h6, ?_⟩
 by_cases e : k = 13 ∨ k = 21 ∨ k = 26
 ·exact h5 e
 ·by_cases e2 : k = 14
  ·exact (A2q (h6 e2)).1
  ·rw [h7 oo_]; decide
theorem E9t {l : List Cl} (h : l ≠ []) (h0 : (A0p l).1 = 0) : (A0p l).2 ≠ [] := by
 rcases A6f l with ⟨_, _, h2, _⟩ | h2 | h2
 ·rw [h2]
  cases l with
  | nil => exact absurd rfl h
  | cons c l =>
   obtain ⟨d, hd, _⟩ := B6l _ c (Nat.le_refl _) (List.mem_cons_self (a := c) (l := l))
   intro e
   rw [e] at hd
   cases hd
 ·rw [h2] at h0; cases h0
 ·rw [h2] at h0; cases h0
theorem E8r {P : List Cl → Int → List Cl → EL} {i d : Int} {r f : List Cl} (h : A4l (A5d f) (i + d) = false) : A2u P i r d f = (0, f) := by
 unfold A2u
 rw [if_pos h]
section
variable {D D' : Nat → Prop} {f g l r : List Cl} {c : Cl} {i : Int}
end
structure F6u (W : A4s) : Prop where
 form : ∀ d f, 0 ≤ d → A0h f = true → (W.form d f).1 = 0 ∧ A0h (W.form d f).2 = true
 A1s : ∀ d f, 0 ≤ d → A0d f = true → (W.A1s d f).1 = 0 ∧ A0d (W.A1s d f).2 = true
 nil : ∀ d, W.form d [] = (0, [])
theorem E2q {W : A4s} (hW : F6u W) {k n d : Int} {nm : ByteArray} {r : List Cl} (hd : 0 ≤ d) (h : B2k k n nm r) : (W.row k d r).1 = 0 ∧ B2k k n nm (W.row k d r).2 := by
 have h0 := h
 obtain ⟨h1, h2, h3, h4, h5, h6, h7⟩ := h
 obtain ⟨q1, q2⟩ := B8x h0
 unfold A4s.row
 by_cases e : k = 14
 ·rw [if_pos e]
  obtain ⟨a1, a2⟩ := hW.A1s d r hd (h6 e)
  exact ⟨a1, h1, h2, fun h => by omega, fun h => by omega, fun h => by omega, fun _ => a2, fun h => by omega⟩
 ·rw [if_neg e]
  obtain ⟨a1, a2⟩ := hW.form d r hd q2
  refine ⟨a1, h1, h2, fun h => ⟨?_, (h3 h).2⟩, fun h => ⟨?_, (h4 h).2⟩, fun h => a2, fun h => absurd h e, fun h => ?_⟩
  ·rw [(h3 h).1, hW.nil]
  ·rw [(h4 h).1, hW.nil]
  ·rw [h7 h, hW.nil]
theorem C1b {W : A4s} (hW : F6u W) : ∀ (t : T) {d : Int}, A8s t → 0 ≤ d → ∃ u, A6n (A0w W) t d = .ok u := T.ind fun t ih d hf hd => by
 have hhead := (B4m.mp hf).1
 refine F3x (A7f (E2q hW hd hhead).1) (fun b hb => ?_) (fun p hp => ?_)
 ·have h1 := (hW.A1s d b.A1s hd (D1v hf hb)).1
  by_cases h2 : (W.A1s d b.A1s).2.length = 0
  ·exact ⟨none, B1w h1 h2⟩
  ·exact ⟨some _, B1v h1 h2⟩
 ·have h1 := C7c hp
  obtain ⟨u, hu⟩ := ih p hp (A5z hf hp) (d := d + p.2.2) oo_
  exact ⟨_, u, rfl, hu⟩
section
variable {W : A4s}
end
theorem F1s (N : Wd) (f b : Int) : shW (coW N) f b = coW (shW N f b) := by
 funext j
 unfold shW coW
 by_cases h : (j : Int) < f
 ·simp only [if_pos h]
 ·simp only [if_neg h]
def atP (r : List Cl) (d : Int) (P N : Wd) : Prop := sat r (shW P 0 d) (shW N 0 d)
def atN (r : List Cl) (d : Int) (P N : Wd) : Prop := ¬ sat r (coW (shW N 0 d)) (coW (shW P 0 d))
theorem D8f {r : List Cl} {d : Int} {P N : Wd} (h : (A0k r 0 d).1 = 0) : sat (A0k r 0 d).2 P N ↔ atP r d P N := D6a h
theorem D8g {r : List Cl} {d : Int} {P N : Wd} (h : (A0k r 0 d).1 = 0) : (¬ sat (A0k r 0 d).2 (coW N) (coW P)) ↔ atN r d P N := by
 unfold atN
 rw [D6a h, F1s, F1s]
theorem D3n {f r x : List Cl} {i d : Int} {P N : Wd} (hf : A0h f = true) (h : A2u A1a i r d f = (0, x)) : A0h x = true ∧ (sat x P N ↔ sat f (ovr P (i + d) (atP r d P N)) (ovr N (i + d) (atN r d P N))) := by
 unfold A2u at h
 split at h
 ·rename_i h1
  injection h with _ h
  subst h
  exact ⟨hf, (D6b (A8t hf) h1).symm⟩
 ·obtain ⟨a1, a2, a3⟩ := A3l (by rw [h] : (B1d (A0k r 0 d) fun s => A1a f (i + d) s).1 = 0)
  rw [a3] at h
  have h0 : (A1a f (i + d) (A0k r 0 d).2).1 = 0 := by rw [h]
  have hx : x = (A1a f (i + d) (A0k r 0 d).2).2 := by rw [h]
  rw [hx]
  refine ⟨E0e h0, ?_⟩
  rw [(D3p h0).2.2.2]
  rw [propext (D8f (P := P) (N := N) a1), propext (D8g (P := P) (N := N) a1)]
theorem D3o {f r x : List Cl} {i d : Int} (hf : A0d f = true) (h : A2u A0v i r d f = (0, x)) : A0d x = true ∧ ∀ P N, C8f P N → (sat x P N ↔ sat f (ovr P (i + d) (atP r d P N)) (ovr N (i + d) (atN r d P N))) := by
 unfold A2u at h
 split at h
 ·rename_i h1
  injection h with _ h
  subst h
  exact ⟨hf, fun P N _ => (D6b (A8t (A2q hf).1) h1).symm⟩
 ·obtain ⟨a1, a2, a3⟩ := A3l (by rw [h] : (B1d (A0k r 0 d) fun s => A0v f (i + d) s).1 = 0)
  rw [a3] at h
  have h0 : (A0v f (i + d) (A0k r 0 d).2).1 = 0 := by rw [h]
  have hx : x = (A0v f (i + d) (A0k r 0 d).2).2 := by rw [h]
  rw [hx]
  refine ⟨(C1t h0).2.2.2.1, fun P N hw => ?_⟩
  rw [(C1t h0).2.2.2.2 P N hw]
  rw [propext (D8f (P := P) (N := N) a1), propext (D8g (P := P) (N := N) a1)]
theorem E5r {f g : List Cl} (h : (A2w f g).1 = 0) : (A2w f g).2.length ≤ 64 ∧ A0d (A2w f g).2 = true := by
 unfold A2w at h ⊢
 split at h
 ·cases h
 ·rename_i h1
  rw [if_neg h1]
  simp only [Bool.not_eq_false, Bool.and_eq_true] at h1
  unfold A7h at h ⊢
  have hr := A5m h
  refine ⟨A5b hr, B2n hr fun c hc => ?_⟩
  rcases List.mem_append.mp (B0w h hc) with hc | hc
  ·exact (A2q h1.1).2 c hc
  ·exact (A2q h1.2).2 c hc
theorem B3j {l : List Cl} (h : (A0p l).1 ≠ 0) : (A0p l).2 = [] := by
 unfold A0p at h ⊢
 (repeat' split) <;> simp_all
theorem E5s {f g : List Cl} (h : (A2w f g).1 ≠ 0) : (A2w f g).2 = [] := by
 unfold A2w at h ⊢
 split
 ·rfl
 ·rename_i h1
  rw [if_neg h1] at h
  unfold A7h at h ⊢
  exact B3j h
section
variable {C : Type} {A : Tr C}
end
def A6p (l : List Cl) : List Cl := l.filter fun c => !B3t c
theorem E6r {l : List Cl} {i : Nat} (h : i < l.length) (hc : B3t (l.getD i cl0) = false) : A6p (l.take (i + 1)) = A6p (l.take i) ++ [l.getD i cl0] := by
 unfold A6p
 rw [A0f (d := cl0) h, List.filter_append, List.filter_cons, if_pos (by rw [hc]; rfl), List.filter_nil]
theorem F1c {l : List Cl} {i : Nat} (h : i < l.length) (hc : B3t (l.getD i cl0) = true) : A6p (l.take (i + 1)) = A6p (l.take i) := by
 unfold A6p
 rw [A0f (d := cl0) h, List.filter_append, List.filter_cons, if_neg (by rw [hc]; decide), List.filter_nil, List.append_nil]
theorem D2q (l : List Cl) : (A6p l).length ≤ l.length := List.length_filter_le _ _
theorem C2b {l : List Cl} (h : l.all A0u = true) : A6p l = A6k l := by
 unfold A6p A6k
 refine List.filter_congr fun c hc => ?_
 rw [C2a (List.all_eq_true.mp h c hc)]
theorem C5x {l : List Cl} (h : ∀ c, c ∈ l → A6s c = false) : A6k l = l := by
 unfold A6k
 exact List.filter_eq_self.mpr fun c hc => by rw [h c hc]; rfl
theorem C5n {f g : List Cl} : A2w f g = if (A0d f && A0d g) = false then (2, []) else A0p (A6p (f ++ g)) := by
 unfold A2w
 split
 ·rfl
 ·rename_i h
  simp only [Bool.not_eq_false, Bool.and_eq_true] at h
  rw [C2b (F6s (A8t (A2q h.1).1) (A8t (A2q h.2).1)), C5x fun c hc => (List.mem_append.mp hc).elim ((A2q h.1).2 c) ((A2q h.2).2 c)]
  rfl
def B4p (x : T) : Int × T := if x.kind < 0 then (-x.kind, t0) else (0, x)
theorem D7i (s : Nat) : (A0g s).Pairwise (· < ·) := by
 unfold A0g A2f
 rw [List.pairwise_map]
 refine List.Pairwise.imp (fun {a b} h => by omega) ((List.pairwise_lt_range (n := 24)).filter _)
theorem B7e (l : List Int) (x : Int) : B2p (l ++ [x]) = B2p l + 2 ^ x.toNat := by simp [B2p]
theorem C9s (x : Int) (l : List Int) : B2p (x :: l) = 2 ^ x.toNat + B2p l := by simp [B2p]
theorem D5z : ∀ {l : List Int} {a : Nat}, l.Pairwise (· < ·) → (∀ x, x ∈ l → (a : Int) ≤ x) → ∃ q, B2p l = 2 ^ a * q ∧ ∀ j : Nat, (B2p l).testBit j = true ↔ (j : Int) ∈ l
 | [], a, _, _ => ⟨0, by simp [B2p], fun j => by simp [B2p]⟩
 | x :: l, a, hp, ha => by
  have hx := ha x List.mem_cons_self
  obtain ⟨h1, h2⟩ := List.pairwise_cons.mp hp
  obtain ⟨q, hq, hb⟩ := D5z (l := l) (a := x.toNat + 1) h2 fun y hy => by have := h1 y hy; omega
  have hlt : 2 ^ x.toNat < 2 ^ (x.toNat + 1) := Nat.pow_lt_pow_right de_ oo_
  have e : B2p (x :: l) = 2 ^ (x.toNat + 1) * q ||| 2 ^ x.toNat := by
   rw [C9s, hq, ← Nat.two_pow_add_eq_or_of_lt hlt, Nat.add_comm]
  refine ⟨2 ^ (x.toNat - a) * (2 * q + 1), ?_, fun j => ?_⟩
  ·rw [C9s, hq, ← Nat.mul_assoc, ← Nat.pow_add, show a + (x.toNat - a) = x.toNat by omega, Nat.pow_succ, Nat.mul_add, Nat.mul_one, Nat.mul_assoc]
   omega
  ·rw [e, Nat.testBit_or, Bool.or_eq_true, ← hq, hb, List.mem_cons, Nat.testBit_two_pow, decide_eq_true_eq]
   constructor
   ·rintro (h | h)
    ·exact .inr h
    ·exact .inl oo_
   ·rintro (h | h)
    ·exact .inr oo_
    ·exact .inl h
theorem D5y {l : List Int} (h : l.Pairwise (· < ·)) (h0 : ∀ x, x ∈ l → 0 ≤ x) (j : Nat) : (B2p l).testBit j = true ↔ (j : Int) ∈ l := by
 obtain ⟨_, _, h2⟩ := D5z (a := 0) h fun x hx => by have := h0 x hx; omega
 exact h2 j
theorem C7m {a b : Nat} (h : ∀ j, a.testBit j = true ↔ b.testBit j = true) : a = b := Nat.eq_of_testBit_eq fun j => by
 have := h j
 cases h1 : a.testBit j <;> cases h2 : b.testBit j <;> simp_all
theorem D3m (s : Nat) (i : Int) : B2p ((A0g s).filter fun x => decide (x ≠ i)) = A0m s i := C7m fun j => by
 rw [D5y ((D7i s).filter _) (fun x hx => (A5w.mp (List.mem_filter.mp hx).1).1), List.mem_filter, A5w, A6d]
 simp only [decide_eq_true_eq, Int.toNat_natCast]
 constructor
 ·rintro ⟨⟨_, h2, h3⟩, h4⟩; exact ⟨by omega, h3, h4⟩
 ·rintro ⟨h2, h3, h4⟩; exact ⟨⟨by omega, by omega, h3⟩, h4⟩
theorem C1a {s : Nat} {i : Int} {j : Nat} : (B1e s i).testBit j = true ↔ j < 24 ∧ (s.testBit j = true ∨ (j : Int) = i) := by
 have h24 : (s &&& 16777215).testBit j = true ↔ j < 24 ∧ s.testBit j = true := by
  rw [show (16777215 : Nat) = 2 ^ 24 - 1 by decide, Nat.testBit_and, Nat.testBit_two_pow_sub_one, Bool.and_eq_true, decide_eq_true_eq, and_comm]
 unfold B1e
 split
 ·rename_i h
  rw [Nat.testBit_or, Bool.or_eq_true, h24, Nat.testBit_two_pow, decide_eq_true_eq]
  constructor
  ·rintro (h1 | h1)
   ·exact ⟨h1.1, .inl h1.2⟩
   ·exact ⟨by omega, .inr oo_⟩
  ·rintro ⟨h1, h2 | h2⟩
   ·exact .inl ⟨h1, h2⟩
   ·exact .inr oo_
 ·rename_i h
  rw [h24]
  constructor
  ·rintro ⟨h1, h2⟩; exact ⟨h1, .inl h2⟩
  ·rintro ⟨h1, h2 | h2⟩
   ·exact ⟨h1, h2⟩
   ·omega
theorem C9r {X Y i : Nat} (h : ∀ j, j ≠ i → (X.testBit j = true ↔ Y.testBit j = true)) (hx : X.testBit i = true) (hy : Y.testBit i = false) : ∀ n, B2p (A2f X n) = B2p (A2f Y n) + if i < n then 2 ^ i else 0
 | 0 => by simp [A2f, B2p]
 | n + 1 => by
  have ih := C9r h hx hy n
  rw [A6h, A6h]
  by_cases e : n = i
  ·subst e
   rw [if_pos hx, if_neg (by simp [hy]), B7e, ih, if_neg (Nat.lt_irrefl _), if_pos (Nat.lt_succ_self _), Int.toNat_natCast]
   omega
  ·have h1 := h n e
   by_cases hb : Y.testBit n = true
   ·rw [if_pos hb, if_pos (h1.mpr hb), B7e, B7e, ih]
    by_cases hi : i < n
    ·rw [if_pos hi, if_pos oo_]; omega
    ·rw [if_neg hi, if_neg oo_]; omega
   ·rw [if_neg hb, if_neg (fun h2 => hb (h1.mp h2)), ih]
    by_cases hi : i < n
    ·rw [if_pos hi, if_pos oo_]
    ·rw [if_neg hi, if_neg oo_]
theorem F7t {s : Nat} (h : s < 16777216) : B2p (A0g s) = s := by rw [B8l, D5j]; exact Nat.mod_eq_of_lt h
theorem E8e {s : Nat} {i : Int} (h : 0 ≤ i ∧ i < 24) : B2p (A0g (A0m s i) ++ [i]) = B1e s i := by
 rw [B7e]
 have hf := C9r (X := B1e s i) (Y := A0m s i) (i := i.toNat) (fun j hj => by
  rw [C1a, A6d]
  constructor
  ·rintro ⟨h1, h2 | h2⟩
   ·exact ⟨h1, h2, by omega⟩
   ·omega
  ·rintro ⟨h1, h2, _⟩; exact ⟨h1, .inl h2⟩) (C1a.mpr ⟨by omega, .inr oo_⟩) (by
  cases hb : (A0m s i).testBit i.toNat with
  | false => rfl
  | true => have := (A6d.mp hb).2.2; omega) 24
 rw [if_pos oo_] at hf
 rw [← hf]
 exact F7t (C6c s i)
theorem D3c (s : Nat) : A0m s (-1) = s &&& 16777215 := by unfold A0m; rw [if_neg de_]
theorem E7q {s : Nat} {i : Int} (h : ¬ (0 ≤ i ∧ i < 24)) : B1e s i = A0m s (-1) := by rw [D3c]; unfold B1e; rw [if_neg h]
def B7q (i x : Int) : Int := if 0 ≤ i ∧ i < x then x - 1 else x
theorem set_drop (s : Nat) {i : Int} (hi : 0 ≤ i) : B2p ((A0g (A0m s i)).map (B7q i)) = A6a s i := C7m fun j => by
 have hm : ∀ x, x ∈ A0g (A0m s i) → 0 ≤ x ∧ x < 24 ∧ s.testBit x.toNat = true ∧ x ≠ i := fun x hx => by
  obtain ⟨h1, h2, h3⟩ := A5w.mp hx
  obtain ⟨_, h4, h5⟩ := A6d.mp h3
  exact ⟨h1, h2, h4, by omega⟩
 have hp : ((A0g (A0m s i)).map (B7q i)).Pairwise (· < ·) := by
  rw [List.pairwise_map]
  refine List.Pairwise.imp_of_mem (fun {a b} ha hb h => ?_) (D7i _)
  have h1 := hm a ha
  have h2 := hm b hb
  unfold B7q
  split <;> split <;> omega
 rw [D5y hp fun x hx => by
  obtain ⟨y, hy, rfl⟩ := List.mem_map.mp hx
  have := hm y hy
  unfold B7q; split <;> omega]
 rw [C3f hi, List.mem_map]
 constructor
 ·rintro ⟨y, hy, e⟩
  obtain ⟨h1, h2, h3, h4⟩ := hm y hy
  unfold B7q at e
  refine ⟨y.toNat, by omega, h3, ?_⟩
  split at e <;> omega
 ·rintro ⟨k, hk, hb, h⟩
  refine ⟨(k : Int), A5w.mpr ⟨by omega, by omega, ?_⟩, ?_⟩
  ·rw [Int.toNat_natCast]
   exact A6d.mpr ⟨hk, hb, by omega⟩
  ·unfold B7q
   split <;> omega
theorem E1q {a b : Nat} (ha : a < 16777216) (hb : b < 16777216) : (A0g b).foldl B1e a = a ||| b := C7m fun j => by
 have key : ∀ (l : List Int) (x : Nat), x < 16777216 → ((l.foldl B1e x).testBit j = true ↔ x.testBit j = true ∨ ((j : Int) ∈ l ∧ j < 24)) := by
  intro l
  induction l with
  | nil => intro x hx; simp
  | cons y l ih =>
   intro x hx
   rw [List.foldl_cons, ih _ (C6c x y), C1a, List.mem_cons]
   have h24 : x.testBit j = true → j < 24 := fun h => Nat.lt_of_not_le fun h2 => by
    rw [Nat.testBit_lt_two_pow (Nat.lt_of_lt_of_le hx (Nat.pow_le_pow_right (n := 2) (i := 24) oo_ h2))] at h
    cases h
   constructor
   ·rintro (⟨h1, h2 | h2⟩ | h2)
    ·exact .inl h2
    ·exact .inr ⟨.inl h2, h1⟩
    ·exact .inr ⟨.inr h2.1, h2.2⟩
   ·rintro (h1 | ⟨h1 | h1, h2⟩)
    ·exact .inl ⟨h24 h1, .inl h1⟩
    ·exact .inl ⟨h2, .inr h1⟩
    ·exact .inr ⟨h1, h2⟩
 rw [key _ _ ha, Nat.testBit_or, Bool.or_eq_true, A5w]
 have h24 : b.testBit j = true → j < 24 := fun h => Nat.lt_of_not_le fun h2 => by
  rw [Nat.testBit_lt_two_pow (Nat.lt_of_lt_of_le hb (Nat.pow_le_pow_right (n := 2) (i := 24) oo_ h2))] at h
  cases h
 constructor
 ·rintro (h | h)
  ·exact .inl h
  ·exact .inr (by simpa using h.1.2.2)
 ·rintro (h | h)
  ·exact .inl h
  ·exact .inr ⟨⟨by omega, by have := h24 h; omega, by simpa using h⟩, h24 h⟩
theorem E0f {l : List Int} {a : Nat} {k : Nat} (h : k < l.length) : (l.take (k + 1)).foldl B1e a = B1e ((l.take k).foldl B1e a) (l.getD k 0) := by
 rw [A0f (d := 0) h, List.foldl_append]; rfl
theorem F0k {l : List Int} {k : Nat} {p : Int → Bool} (h : k < l.length) (hp : p (l.getD k 0) = true) : (l.take (k + 1)).filter p = (l.take k).filter p ++ [l.getD k 0] := by
 rw [A0f (d := 0) h, List.filter_append, List.filter_cons, if_pos hp, List.filter_nil]
theorem F6j {l : List Int} {k : Nat} {p : Int → Bool} (h : k < l.length) (hp : p (l.getD k 0) = false) : (l.take (k + 1)).filter p = (l.take k).filter p := by
 rw [A0f (d := 0) h, List.filter_append, List.filter_cons, if_neg (by rw [hp]; decide), List.filter_nil, List.append_nil]
theorem F7a {s : Nat} : ∀ x, x ∈ A0g s → 0 ≤ x ∧ x < 24 := fun x hx => ⟨(A5w.mp hx).1, (A5w.mp hx).2.1⟩
theorem E9s (s : Nat) : (A0g s).length ≤ 24 := by
 unfold A0g A2f
 rw [List.length_map]
 exact Nat.le_trans (List.length_filter_le _ _) sp_
end Go.Hy
