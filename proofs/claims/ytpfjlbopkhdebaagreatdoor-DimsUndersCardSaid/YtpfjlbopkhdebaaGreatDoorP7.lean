/- Contracts of this program's functions and the laws that they need: a separation logic over the machine's rules, one theorem each (partly printed by a program of this repository). -/
import Derived.Lib.TrailingZeros
import Derived.LaidMore
import Derived.OpenShut
import Derived.Stop.Joined
import Derived.MakeChecks
import Derived.Shelf.Spec.TrailingZeros
import Derived.Test.YtpfjlbopkhdebaaGreatDoorP3
import Derived.Test.YtpfjlbopkhdebaaGreatDoorP4
import Derived.Test.YtpfjlbopkhdebaaGreatDoorP6
set_option linter.unusedVariables false
set_option linter.unusedSimpArgs false
set_option linter.unusedSectionVars false
namespace Go.Hy
/-! ### A term of which every node is as it may be -/
def B5a (k n : Int) (nm : ByteArray) (r : List Cl) : Prop :=
 (k ≠ 1 → n = 0) ∧ (k ≠ 2 → nm.toList = (ByteArray.mk #[]).toList) ∧ (k = 1 → r = [] ∧ 0 ≤ n) ∧ (k = 2 → r = [] ∧ A9l nm = true) ∧ (k = 13 ∨ k = 21 ∨ k = 26 → A0h r = true) ∧ (k = 14 → A0d r = true) ∧ (k ≠ 13 ∧ k ≠ 21 ∧ k ≠ 26 ∧ k ≠ 14 → r = [])
mutual
def A9p : T → Prop
 | .mk k n nm r ks ss => B5a k n nm r ∧ A3w k = (ks.length : Int) ∧ (A3a k = 0 → ss = []) ∧ B0x ks ∧ B8e k ss
def B0x : List T → Prop
 | [] => True
 | t :: ts => A9p t ∧ B0x ts
def B8e (k : Int) : List Br → Prop
 | [] => True
 | .mk f ks :: bs => (ks.length : Int) = A3a k ∧ A0d f = true ∧ B0x ks ∧ B8e k bs
end
theorem B2g {k : Int} (h : k = 1 ∨ k = 2 ∨ k = 13 ∨ k = 21 ∨ k = 26 ∨ k = 14) : A3a k = 0 := by
 unfold A3a
 rcases h with h | h | h | h | h | h <;> subst h <;> decide
theorem C7p (l : List Cl) {d : Int} (h : 24 ≤ d) : within l d = true := by unfold within; rw [decide_eq_true h]; rfl
theorem C1s {α : Type} {l : List α} : ((l.length : Int) = 0) ↔ l = [] := by
 constructor
 ·intro h; exact List.eq_nil_of_length_eq_zero (by omega)
 ·rintro rfl; rfl
theorem C1g {k n : Int} {nm : ByteArray} {r : List Cl} {ks : List T} {ss : List Br} {d : Int} (hd : 24 ≤ d) : C1f (.mk k n nm r ks ss) (-1) d = true ↔ B5a k n nm r ∧ A3w k = (ks.length : Int) ∧ (A3a k = 0 → ss = []) ∧ ∀ b, b ∈ ss → (b.kids.length : Int) = A3a k ∧ A0d b.A1z = true := by
 have hB : ∀ b : Br, C2u (.mk k n nm r ks ss) d b = (decide ((b.kids.length : Int) = A3a k) && A0d b.A1z) := fun b => by
  unfold C2u; rw [C7p _ hd, Bool.and_true]; rfl
 have hL : (0 : Int) < (ss.length : Int) ↔ ss ≠ [] := by
  constructor
  ·intro h e; subst e; simp at h
  ·intro h; have := List.length_pos_iff.mpr h; omega
 have hs : ∀ p : Bool, (ss.all (C2u (.mk k n nm r ks ss) d) = true) ↔ ∀ b, b ∈ ss → (b.kids.length : Int) = A3a k ∧ A0d b.A1z = true := fun _ => by
  rw [List.all_eq_true]
  exact forall_congr' fun b => forall_congr' fun _ => by rw [hB]; simp
 unfold C1f B4v B5a
 simp only [T.kind, T.n, T.name, T.r, T.kids, T.sys, C7p _ hd, Bool.and_true, Bool.and_eq_true, Bool.not_eq_true', Bool.or_eq_false_iff, Bool.and_eq_false_iff, decide_eq_false_iff_not, Decidable.not_not, ne_eq, Int.not_lt, Bool.not_eq_false', beq_iff_eq]
 constructor
 ·rintro ⟨⟨⟨⟨h1, h2⟩, h3⟩, h4⟩, h5⟩
  replace h1 : A3w k = (ks.length : Int) := Decidable.not_not.mp (of_decide_eq_false h1)
  replace h2 : k = 1 ∨ n = 0 := h2.imp (fun h => Decidable.not_not.mp (of_decide_eq_false h)) (fun h => Decidable.not_not.mp (of_decide_eq_false h))
  replace h3 : k = 2 ∨ nm.toList = (ByteArray.mk #[]).toList := h3.imp (fun h => Decidable.not_not.mp (of_decide_eq_false h)) id
  replace h4 : ¬ A3a k = 0 ∨ ¬ (0 : Int) < (ss.length : Int) := h4.imp (fun h => of_decide_eq_false h) (fun h => of_decide_eq_false h)
  have hss : A3a k = 0 → ss = [] := by
   intro h
   rcases h4 with h4 | h4
   ·exact absurd h h4
   ·exact List.eq_nil_of_length_eq_zero (by omega)
  split at h5
  ·rename_i hk
   have he := hss (B2g (by omega))
   subst he
   simp only [Bool.and_eq_true, decide_eq_true_eq] at h5
   exact ⟨⟨by omega, fun _ => h3.resolve_left (by omega), fun _ => ⟨C1s.mp (of_decide_eq_true h5.1.1), of_decide_eq_true h5.1.2⟩, by omega, by omega, by omega, fun _ => C1s.mp (of_decide_eq_true h5.1.1)⟩, h1, hss, fun b hb => by cases hb⟩
  ·split at h5
   ·rename_i hk1 hk
    have he := hss (B2g (by omega))
    subst he
    simp only [Bool.and_eq_true, decide_eq_true_eq] at h5
    exact ⟨⟨by omega, fun h => absurd hk h, by omega, fun _ => ⟨C1s.mp (of_decide_eq_true h5.1), h5.2⟩, by omega, by omega, fun _ => C1s.mp (of_decide_eq_true h5.1)⟩, h1, hss, fun b hb => by cases hb⟩
   ·split at h5
    ·rename_i hk1 hk2 hk
     have he := hss (B2g (by omega))
     subst he
     exact ⟨⟨by omega, fun _ => h3.resolve_left (by omega), by omega, by omega, fun _ => h5, by omega, by omega⟩, h1, hss, fun b hb => by cases hb⟩
    ·split at h5
     ·rename_i hk1 hk2 hk3 hk
      have he := hss (B2g (by omega))
      subst he
      exact ⟨⟨by omega, fun _ => h3.resolve_left (by omega), by omega, by omega, by omega, fun _ => h5, by omega⟩, h1, hss, fun b hb => by cases hb⟩
     ·rename_i hk1 hk2 hk3 hk4
      simp only [Bool.and_eq_true, decide_eq_true_eq] at h5
      exact ⟨⟨by omega, fun _ => h3.resolve_left (by omega), by omega, by omega, by omega, by omega, fun _ => C1s.mp (of_decide_eq_true h5.2)⟩, h1, hss, (hs true).mp h5.1⟩
 ·rintro ⟨⟨a1, a2, a3, a4, a5, a6, a7⟩, b1, b2, b3⟩
  refine ⟨⟨⟨⟨decide_eq_false (Decidable.not_not.mpr b1), ?_⟩, ?_⟩, ?_⟩, ?_⟩
  ·by_cases h : k = 1
   ·exact .inl (decide_eq_false (Decidable.not_not.mpr h))
   ·exact .inr (decide_eq_false (Decidable.not_not.mpr (a1 h)))
  ·by_cases h : k = 2
   ·exact .inl (decide_eq_false (Decidable.not_not.mpr h))
   ·exact .inr (a2 h)
  ·by_cases h : A3a k = 0
   ·exact .inr (decide_eq_false (by rw [b2 h]; decide))
   ·exact .inl (decide_eq_false h)
  ·split
   ·rename_i h; simp [(a3 h).1, (a3 h).2]
   ·split
    ·rename_i h; simp [(a4 h).1, (a4 h).2]
    ·split
     ·rename_i h; exact a5 h
     ·split
      ·rename_i h; exact a6 h
      ·rename_i h1 h2 h3 h4
       rw [Bool.and_eq_true, (hs true)]
       exact ⟨b3, by simp [a7 (by omega)]⟩
theorem B6x : ∀ {ts : List T}, B0x ts ↔ ∀ t, t ∈ ts → A9p t
 | [] => by simp [B0x]
 | t :: ts => by simp [B0x, B6x (ts := ts)]
theorem D0p {k : Int} : ∀ {bs : List Br}, B8e k bs ↔ ∀ b, b ∈ bs → (b.kids.length : Int) = A3a k ∧ A0d b.A1z = true ∧ B0x b.kids
 | [] => by simp [B8e]
 | .mk f ks :: bs => by
  simp only [B8e, D0p (bs := bs), List.forall_mem_cons, Br.kids, Br.A1z]
  constructor
  ·rintro ⟨h1, h2, h3, h4⟩; exact ⟨⟨h1, h2, h3⟩, h4⟩
  ·rintro ⟨⟨h1, h2, h3⟩, h4⟩; exact ⟨h1, h2, h3, h4⟩
theorem D0o {t : T} : A9p t ↔ B5a t.kind t.n t.name t.r ∧ A3w t.kind = (t.kids.length : Int) ∧ (A3a t.kind = 0 → t.sys = []) ∧ B0x t.kids ∧ B8e t.kind t.sys := by
 obtain ⟨k, n, nm, r, ks, ss⟩ := t
 simp only [A9p, T.kind, T.n, T.name, T.r, T.kids, T.sys]
theorem C4x {t : T} : A9p t ↔ (∀ d : Int, 24 ≤ d → C1f t (-1) d = true) ∧ ∀ p, p ∈ parts t → A9p p.1 := by
 rw [D0o, B6x, D0p]
 have ho : ∀ d : Int, 24 ≤ d → (C1f t (-1) d = true ↔ B5a t.kind t.n t.name t.r ∧ A3w t.kind = (t.kids.length : Int) ∧ (A3a t.kind = 0 → t.sys = []) ∧ ∀ b, b ∈ t.sys → (b.kids.length : Int) = A3a t.kind ∧ A0d b.A1z = true) := by
  intro d hd
  obtain ⟨k, n, nm, r, ks, ss⟩ := t
  exact C1g hd
 constructor
 ·rintro ⟨h1, h2, h3, h4, h5⟩
  refine ⟨fun d hd => (ho d hd).mpr ⟨h1, h2, h3, fun b hb => ⟨(h5 b hb).1, (h5 b hb).2.1⟩⟩, fun p hp => ?_⟩
  rcases C4b hp with ⟨i, hi, rfl⟩ | ⟨s, k, hs, hk, rfl⟩
  ·exact h4 _ (A0n hi)
  ·exact B6x.mp (h5 _ (A0n hs)).2.2 _ (A0n hk)
 ·rintro ⟨h1, h2⟩
  obtain ⟨a1, a2, a3, a4⟩ := (ho 24 (by omega)).mp (h1 24 (by omega))
  refine ⟨a1, a2, a3, fun k hk => ?_, fun b hb => ⟨(a4 b hb).1, (a4 b hb).2, B6x.mpr fun k hk => ?_⟩⟩
  ·obtain ⟨p, hp, e⟩ := A5p hk; exact e ▸ h2 p hp
  ·obtain ⟨p, hp, e⟩ := A5m hb hk; exact e ▸ h2 p hp
theorem F0h : ∀ (t : T) (d : Int), 24 ≤ d → (B4q t (-1) d false = true ↔ A9p t) := T.ind fun t ih d hd => by
 rw [E6a, C4x]
 have hw : ∀ p : Part, IntKind.i64.wrap (-1 + if (-1 : Int) < 0 then 0 else p.2.1) = -1 := fun p => by rw [if_pos (by decide)]; decide
 constructor
 ·rintro ⟨_, h2, h3⟩
  refine ⟨fun d' hd' => ?_, fun p hp => ?_⟩
  ·obtain ⟨k, n, nm, r, ks, ss⟩ := t
   exact (C1g hd').mpr ((C1g hd).mp h2)
  ·have h4 := h3 p hp
   rw [hw] at h4
   have h5 := D5m hp
   exact (ih p hp (d + p.2.2) (by omega)).mp h4
 ·rintro ⟨h1, h2⟩
  refine ⟨by simp, h1 d hd, fun p hp => ?_⟩
  rw [hw]
  have h5 := D5m hp
  exact (ih p hp (d + p.2.2) (by omega)).mpr (h2 p hp)
theorem C2c {t : T} : A2p t = 0 ↔ sized t = 0 ∧ A9p t := by rw [D3u, F0h t 24 (by omega)]
/-! ### What a way keeps -/
section
variable {C : Type} {A : Tr C}
end
/-! ### One way, and then another one -/
section
variable {CA CB CC : Type} {A : Tr CA} {B : Tr CB} {D : Tr CC} (R : CA → CB → CC → Prop)
variable {R}
end
/-! ### Where one way is told, another one is -/
section
variable {CA CC : Type} {A : Tr CA} {D : Tr CC} (R : CA → CC → Prop)
structure Told : Prop where
 inl : ∀ ca cc k n nm r u, R ca cc → B5a k n nm r → A.own ca k n nm r = .ok (.inl u) → ∃ w, D.own cc k n nm r = .ok (.inl w)
 inr : ∀ ca cc k n nm r p, R ca cc → B5a k n nm r → A.own ca k n nm r = .ok (.inr p) → ∃ w, D.own cc k n nm r = .ok w
 none : ∀ ca cc f, R ca cc → A0d f = true → A.A1z ca f = .ok none → D.A1z cc f = .ok none
 some : ∀ ca cc f f', R ca cc → A0d f = true → A.A1z ca f = .ok (some f') → ∃ w, D.A1z cc f = .ok w
 kid : ∀ ca cc b ca', R ca cc → A.kid ca b = .ok ca' → ∃ cc', D.kid cc b = .ok cc' ∧ R ca' cc'
variable {R}
theorem A2m.A9z {α β : Type} {x : A2m α} {k : α → A2m β} (h : ∃ a, x = .ok a) (h2 : ∀ a, x = .ok a → ∃ b, k a = .ok b) : ∃ b, x.bind k = .ok b := by
 obtain ⟨a, ha⟩ := h
 obtain ⟨b, hb⟩ := h2 a ha
 exact ⟨b, by rw [ha]; exact hb⟩
mutual
theorem told (F : Told (A := A) (D := D) R) : ∀ {t u : T} {ca : CA} {cc : CC}, A9p t → R ca cc → A7h A t ca = .ok u → ∃ w, A7h D t cc = .ok w
 | .mk k n nm r ks ss, u, ca, cc, h, hr, hu => by
  simp only [A9p] at h
  obtain ⟨h1, h2, h3, h4, h5⟩ := h
  rw [A9s] at hu
  simp only [T.kind, T.n, T.name, T.r, T.kids, T.sys] at hu
  obtain ⟨o, h9, hu⟩ := A2m.A0m hu
  rw [A9s]
  simp only [T.kind, T.n, T.name, T.r, T.kids, T.sys]
  cases o with
  | inl v =>
   obtain ⟨w, hw⟩ := F.inl _ _ _ _ _ _ _ hr h1 h9
   exact ⟨w, by rw [hw]; rfl⟩
  | inr p =>
   obtain ⟨ks', h10, hu⟩ := A2m.A0m hu
   obtain ⟨ss', h11, hu⟩ := A2m.A0m hu
   refine A2m.A9z (F.inr _ _ _ _ _ _ _ hr h1 h9) (fun o _ => ?_)
   cases o with
   | inl v => exact ⟨v, rfl⟩
   | inr q =>
    refine A2m.A9z (F6a F h4 hr h10) (fun a _ => A2m.A9z (E6u F h5 hr h11) (fun b _ => ⟨_, rfl⟩))
theorem F6a (F : Told (A := A) (D := D) R) {kd : Int} : ∀ {ts us : List T} {i : Nat} {ca : CA} {cc : CC}, B0x ts → R ca cc → A6t A kd i ts ca = .ok us → ∃ w, A6t D kd i ts cc = .ok w
 | [], us, i, ca, cc, h, hr, hu => ⟨[], A6s _ _ _⟩
 | t :: ts, us, i, ca, cc, h, hr, hu => by
  simp only [B0x] at h
  rw [A4k] at hu
  obtain ⟨c', h1, hu⟩ := A2m.A0m hu
  obtain ⟨t', h2, hu⟩ := A2m.A0m hu
  obtain ⟨ts', h3, hu⟩ := A2m.A0m hu
  obtain ⟨cc', e2, hr'⟩ := F.kid _ _ _ _ hr h1
  rw [A4k]
  refine A2m.A9z ⟨cc', e2⟩ (fun a9 ha => ?_)
  rw [e2] at ha
  injection ha with ha
  subst ha
  exact A2m.A9z (told F h.1 hr' h2) (fun a _ => A2m.A9z (F6a F h.2 hr h3) (fun b _ => ⟨_, rfl⟩))
theorem F5z (F : Told (A := A) (D := D) R) {kd : Int} : ∀ {ts us : List T} {ca : CA} {cc : CC}, B0x ts → R ca cc → A5h A kd ts ca = .ok us → ∃ w, A5h D kd ts cc = .ok w
 | [], us, ca, cc, h, hr, hu => ⟨[], A6r _ _⟩
 | t :: ts, us, ca, cc, h, hr, hu => by
  simp only [B0x] at h
  rw [A4j] at hu
  obtain ⟨c', h1, hu⟩ := A2m.A0m hu
  obtain ⟨t', h2, hu⟩ := A2m.A0m hu
  obtain ⟨ts', h3, hu⟩ := A2m.A0m hu
  obtain ⟨cc', e2, hr'⟩ := F.kid _ _ _ _ hr h1
  rw [A4j]
  refine A2m.A9z ⟨cc', e2⟩ (fun a9 ha => ?_)
  rw [e2] at ha
  injection ha with ha
  subst ha
  exact A2m.A9z (told F h.1 hr' h2) (fun a _ => A2m.A9z (F5z F h.2 hr h3) (fun b _ => ⟨_, rfl⟩))
theorem E6u (F : Told (A := A) (D := D) R) {kd : Int} : ∀ {bs us : List Br} {ca : CA} {cc : CC}, B8e kd bs → R ca cc → A6v A kd bs ca = .ok us → ∃ w, A6v D kd bs cc = .ok w
 | [], us, ca, cc, h, hr, hu => ⟨[], A6u _ _⟩
 | .mk f ks :: bs, us, ca, cc, h, hr, hu => by
  simp only [B8e] at h
  obtain ⟨h1, h2, h3, h4⟩ := h
  rw [A4s] at hu
  simp only [Br.A1z, Br.kids] at hu
  obtain ⟨o, h5, hu⟩ := A2m.A0m hu
  rw [A4s]
  simp only [Br.A1z, Br.kids]
  cases o with
  | none =>
   rw [F.none _ _ _ hr h2 h5]
   exact E6u F h4 hr hu
  | some f' =>
   obtain ⟨ks', h6, hu⟩ := A2m.A0m hu
   obtain ⟨bs', h7, hu⟩ := A2m.A0m hu
   refine A2m.A9z (F.some _ _ _ _ hr h2 h5) (fun o _ => ?_)
   cases o with
   | none => exact E6u F h4 hr h7
   | some q => exact A2m.A9z (F5z F h3 hr h6) (fun a _ => A2m.A9z (E6u F h4 hr h7) (fun b _ => ⟨_, rfl⟩))
end
end
end Go.Hy
namespace Go.Hy
/-! ### Masks, bit by bit -/
theorem B3i {s : Nat} {f b : Int} (h : (A0l s f b).1 = 0) (i : Nat) : 0 ≤ f ∧ 0 ≤ b ∧ (A0l s f b).2.testBit i = ((decide (i < min f.toNat 24) && (s &&& 16777215).testBit i) || (decide (min f.toNat 24 + b.toNat ≤ i) && (s &&& 16777215).testBit (i - b.toNat))) := by
 by_cases h0 : f < 0 ∨ b < 0
 ·rw [A0l, if_pos h0] at h; cases h
 ·have hq : ∀ j, (s &&& 16777215).testBit j = true → j < 24 := fun j hj => by rw [A6d, Bool.and_eq_true, decide_eq_true_eq] at hj; exact hj.1
  refine ⟨by omega, by omega, ?_⟩
  generalize hF : min f.toNat 24 = F at *
  by_cases h1 : A1f (s &&& 16777215) (2 ^ (min f.toNat 24) - 1) = 0
  ·rw [A0l, if_neg h0, if_pos h1]
   show ((s &&& 16777215) &&& (2 ^ (min f.toNat 24) - 1)).testBit i = _
   rw [hF] at h1 ⊢
   rw [Nat.testBit_and, B4e]
   have h2 : (decide (F + b.toNat ≤ i) && (s &&& 16777215).testBit (i - b.toNat)) = false := by
    cases h3 : (s &&& 16777215).testBit (i - b.toNat) with
    | false => rw [Bool.and_false]
    | true =>
     rw [Bool.and_true]
     refine decide_eq_false (fun h4 => ?_)
     have h5 : (A1f (s &&& 16777215) (2 ^ F - 1)).testBit (i - b.toNat) = true := by
      rw [A7e, B4e, h3, decide_eq_true (by have := hq _ h3; omega), decide_eq_false (by omega)]; rfl
     rw [h1, Nat.zero_testBit] at h5
     cases h5
   rw [h2, Bool.or_false, Bool.and_comm]
  ·by_cases h2 : 24 ≤ b ∨ 16777215 < A1f (s &&& 16777215) (2 ^ (min f.toNat 24) - 1) * 2 ^ b.toNat
   ·rw [A0l, if_neg h0, if_neg h1, if_pos h2] at h; cases h
   ·rw [A0l, if_neg h0, if_neg h1, if_neg h2]
    show (((s &&& 16777215) &&& (2 ^ (min f.toNat 24) - 1)) ||| (A1f (s &&& 16777215) (2 ^ (min f.toNat 24) - 1) * 2 ^ b.toNat)).testBit i = _
    rw [hF, Nat.testBit_or, Nat.testBit_and, B4e, Nat.testBit_mul_two_pow, A7e, B4e]
    cases h3 : (s &&& 16777215).testBit (i - b.toNat) with
    | false => simp [Bool.and_comm]
    | true =>
     have h4 := hq _ h3
     rw [decide_eq_true (show i - b.toNat < 32 by omega)]
     simp only [Bool.and_true, Bool.true_and]
     rw [Bool.and_comm]
     congr 1
     by_cases h5 : F + b.toNat ≤ i
     ·rw [decide_eq_true (show b.toNat ≤ i by omega), decide_eq_false (show ¬ i - b.toNat < F by omega), decide_eq_true h5]; rfl
     ·rw [decide_eq_false h5]
      by_cases h6 : b.toNat ≤ i
      ·rw [decide_eq_true h6, decide_eq_true (show i - b.toNat < F by omega)]; rfl
      ·rw [decide_eq_false h6]; rfl
/-! ### Clauses, formulas -/
theorem E5p {c : Cl} {f b : Int} (h : (A1c c f b).1 = 0) : A0q c = true ∧ (A0l c.pos f b).1 = 0 ∧ (A0l c.neg f b).1 = 0 ∧ (A1c c f b).2 = ⟨(A0l c.pos f b).2, (A0l c.neg f b).2⟩ := by
 unfold A1c at h ⊢
 split at h
 ·cases h
 ·rename_i h1
  split at h
  ·rename_i h2; exact absurd h h2
  ·rename_i h2
   split at h
   ·rename_i h3; exact absurd h h3
   ·rename_i h3
    rw [if_neg h1, if_neg h2, if_neg h3]
    exact ⟨by simpa using h1, Decidable.not_not.mp h2, Decidable.not_not.mp h3, rfl⟩
theorem A7a (l : List Cl) : ((A0w l).1 = 0 ∧ l.all A0q = true ∧ (A0w l).2 = A3o l ∧ (A3o l).length ≤ 64) ∨ (A0w l).1 = 2 ∨ (A0w l).1 = 3 := by
 unfold A0w
 split
 ·exact .inr (.inl rfl)
 ·rename_i h1
  split
  ·exact .inr (.inr rfl)
  ·rename_i h2
   exact .inl ⟨rfl, by simpa using h1, rfl, by omega⟩
theorem A6a {l : List Cl} (h : (A0w l).1 = 0) : A0h (A0w l).2 = true := by
 rcases A7a l with ⟨_, h1, h2, h3⟩ | h1 | h1
 ·rw [h2]
  unfold A0h
  rw [Bool.and_eq_true, Bool.and_eq_true, Bool.and_eq_true]
  refine ⟨⟨⟨List.all_eq_true.mpr fun c hc => List.all_eq_true.mp h1 c (A4i.mp hc).1, B2b.mpr (A8g l)⟩, C2q.mpr fun a ha b hb => A9k.mp (A4i.mp ha).2 b (A4i.mp hb).1⟩, decide_eq_true h3⟩
 ·rw [h1] at h; cases h
 ·rw [h1] at h; cases h
theorem B1t {l : List Cl} (h : (A0w l).1 = 0) {c : Cl} (hc : c ∈ (A0w l).2) : c ∈ l := by
 rcases A7a l with ⟨_, h1, h2, h3⟩ | h1 | h1
 ·rw [h2] at hc; exact (A4i.mp hc).1
 ·rw [h1] at h; cases h
 ·rw [h1] at h; cases h
theorem C2z {l : List Cl} {f b : Int} (h : (A0t l f b).1 = 0) : A0h l = true ∧ (∀ c, c ∈ l → (A1c c f b).1 = 0) ∧ A0t l f b = A0w (l.map fun c => (A1c c f b).2) := by
 unfold A0t at h ⊢
 split at h
 ·cases h
 ·rename_i h1
  split at h
  ·rename_i h2; exact absurd h h2
  ·rename_i h2
   have h3 : (A7s (fun c => A1c c f b) l).1 = 0 := Decidable.not_not.mp h2
   rw [if_neg h1, if_neg h2]
   exact ⟨by simpa using h1, D0l.mp h3, by rw [E5a h3]⟩
section
variable {C : Type} {A : Tr C}
end
/-! A refusal's number. -/
theorem C5d (c : Cl) (f b : Int) : (A1c c f b).1 = 0 ∨ (A1c c f b).1 = 2 ∨ (A1c c f b).1 = 10 := by
 have hm : ∀ s, (A0l s f b).1 = 0 ∨ (A0l s f b).1 = 2 ∨ (A0l s f b).1 = 10 := fun s => by
  unfold A0l
  split
  ·exact .inr (.inl rfl)
  ·split
   ·exact .inl rfl
   ·split
    ·exact .inr (.inr rfl)
    ·exact .inl rfl
 unfold A1c
 split
 ·exact .inr (.inl rfl)
 ·split
  ·exact hm _
  ·split
   ·exact hm _
   ·exact .inl rfl
def B7e (r : A2m T) : Int × T := match r with
 | .ok u => (0, u)
 | .bad e => (e, t0)
end Go.Hy
namespace Go.Hy
/-! ### A contract whose result is only known to be so and so -/
theorem Spec.F4o {P : Program} {k : FuncId} {args : Array Value} {pre : List Fact} {Ms0 : List Res} {α X : Type} (r : α) {val : α → X → Value} {N : α → X → List Fact} {Ms1 : α → X → List Res} (h : Spec P k args pre Ms0 (val r) (N r) (Ms1 r)) :
  Spec P k args pre Ms0 (fun x : {x : α × X // x.1 = r} => val x.1.1 x.1.2) (fun x => N x.1.1 x.1.2) (fun x => Ms1 x.1.1 x.1.2) := fun ok w hk hs => (h ok w hk hs).mono fun e w' hh => by
 obtain ⟨x, he, hs'⟩ := hh
 exact ⟨⟨(r, x), rfl⟩, he, hs'⟩
/-! ### What a way tells of the parts -/
section
variable {C : Type} {A : Tr C}
theorem D4r {k : Int} {c : C} : ∀ {ts us : List T} {i : Nat}, A6t A k i ts c = .ok us → us.length = ts.length ∧ ∀ j, j < us.length → ∃ c', A.kid c (binds k ((i + j : Nat) : Int)) = .ok c' ∧ A7h A (ts.getD j t0) c' = .ok (us.getD j t0)
 | [], us, i, h => by rw [A6s] at h; injection h with h; subst h; exact ⟨rfl, fun j hj => absurd hj (by simp)⟩
 | t :: ts, us, i, h => by
  rw [A4k] at h
  obtain ⟨c', h1, h⟩ := A2m.A0m h
  obtain ⟨t', h2, h⟩ := A2m.A0m h
  obtain ⟨ts', h3, h⟩ := A2m.A0m h
  injection h with h
  subst h
  obtain ⟨h4, h5⟩ := D4r h3
  refine ⟨by simp [h4], fun j hj => ?_⟩
  cases j with
  | zero => exact ⟨c', by simpa using h1, by simpa using h2⟩
  | succ j =>
   obtain ⟨d, h6, h7⟩ := h5 j (by simpa using hj)
   exact ⟨d, by rw [show i + (j + 1) = i + 1 + j by omega]; exact h6, by rw [List.getD_cons_succ, List.getD_cons_succ]; exact h7⟩
theorem D4q {k : Int} {c : C} : ∀ {ts us : List T}, A5h A k ts c = .ok us → us.length = ts.length ∧ ∀ j, j < us.length → ∃ c', A.kid c (0, more k) = .ok c' ∧ A7h A (ts.getD j t0) c' = .ok (us.getD j t0)
 | [], us, h => by rw [A6r] at h; injection h with h; subst h; exact ⟨rfl, fun j hj => absurd hj (by simp)⟩
 | t :: ts, us, h => by
  rw [A4j] at h
  obtain ⟨c', h1, h⟩ := A2m.A0m h
  obtain ⟨t', h2, h⟩ := A2m.A0m h
  obtain ⟨ts', h3, h⟩ := A2m.A0m h
  injection h with h
  subst h
  obtain ⟨h4, h5⟩ := D4q h3
  refine ⟨by simp [h4], fun j hj => ?_⟩
  cases j with
  | zero => exact ⟨c', h1, by simpa using h2⟩
  | succ j =>
   obtain ⟨d, h6, h7⟩ := h5 j (by simpa using hj)
   exact ⟨d, h6, by rw [List.getD_cons_succ, List.getD_cons_succ]; exact h7⟩
theorem C5t {k : Int} {c : C} : ∀ {bs us : List Br}, A6v A k bs c = .ok us → us.length ≤ bs.length ∧ ∀ u, u ∈ us → ∃ b, b ∈ bs ∧ A.A1z c b.A1z = .ok (some u.A1z) ∧ A5h A k b.kids c = .ok u.kids
 | [], us, h => by rw [A6u] at h; injection h with h; subst h; exact ⟨Nat.le_refl _, fun u hu => (by cases hu)⟩
 | b :: bs, us, h => by
  rw [A4s] at h
  obtain ⟨o, h1, h⟩ := A2m.A0m h
  cases o with
  | none =>
   obtain ⟨h4, h5⟩ := C5t h
   exact ⟨by simp only [List.length_cons]; omega, fun u hu => by obtain ⟨x, hx, h6⟩ := h5 u hu; exact ⟨x, List.mem_cons_of_mem _ hx, h6⟩⟩
  | some f' =>
   obtain ⟨ks', h2, h⟩ := A2m.A0m h
   obtain ⟨bs', h3, h⟩ := A2m.A0m h
   injection h with h
   subst h
   obtain ⟨h4, h5⟩ := C5t h3
   refine ⟨by simp only [List.length_cons]; omega, fun u hu => ?_⟩
   rcases List.mem_cons.mp hu with rfl | hu
   ·exact ⟨b, List.mem_cons_self, h1, h2⟩
   ·obtain ⟨x, hx, h6⟩ := h5 u hu; exact ⟨x, List.mem_cons_of_mem _ hx, h6⟩
theorem C6o {α : Type} {d x : α} {l : List α} (h : x ∈ l) : ∃ i, i < l.length ∧ l.getD i d = x := by
 obtain ⟨i, hi, e⟩ := List.mem_iff_getElem.mp h
 exact ⟨i, hi, by rw [A5g (d := d) hi]; exact e⟩
theorem E6t {t u : T} {c : C} (h : A7h A t c = .ok u) : A.own c t.kind t.n t.name t.r = .ok (.inl u) ∨ ∃ p, A.own c t.kind t.n t.name t.r = .ok (.inr p) ∧ (u.kind = t.kind ∧ u.n = p.1 ∧ u.name = t.name ∧ u.r = p.2) ∧
  (∀ q, q ∈ parts u → ∃ p, p ∈ parts t ∧ p.2 = q.2 ∧ ∃ c', A.kid c p.2 = .ok c' ∧ A7h A p.1 c' = .ok q.1) ∧ ∀ b', b' ∈ u.sys → ∃ b, b ∈ t.sys ∧ A.A1z c b.A1z = .ok (some b'.A1z) := by
 rw [A9s] at h
 obtain ⟨o, h1, h⟩ := A2m.A0m h
 cases o with
 | inl v => injection h with h; subst h; exact .inl h1
 | inr p =>
  obtain ⟨ks', h2, h⟩ := A2m.A0m h
  obtain ⟨ss', h3, h⟩ := A2m.A0m h
  injection h with h
  subst h
  obtain ⟨l1, l2⟩ := D4r h2
  obtain ⟨b1, b2⟩ := C5t h3
  refine .inr ⟨p, h1, ⟨rfl, rfl, rfl, rfl⟩, fun q hq => ?_, fun b' hb' => ?_⟩
  ·rcases C4b hq with ⟨i, hi, rfl⟩ | ⟨s, j, hs, hj, rfl⟩
   ·simp only [T.kids, T.kind] at hi ⊢
    obtain ⟨c', h4, h5⟩ := l2 i hi
    exact ⟨_, List.mem_of_getElem? (A6x t i (by omega)), rfl, c', by rw [Nat.zero_add] at h4; exact h4, h5⟩
   ·simp only [T.sys, T.kind] at hs hj ⊢
    obtain ⟨b, hb, _, h6⟩ := b2 _ (A0n (d := br0) hs)
    obtain ⟨h7, h8⟩ := D4q h6
    obtain ⟨c', h9, h10⟩ := h8 j hj
    obtain ⟨s', hs', e⟩ := C6o (d := br0) hb
    refine ⟨_, List.mem_of_getElem? (A7l t s' j hs' (by rw [e]; omega)), rfl, c', h9, ?_⟩
    rw [e]; exact h10
  ·obtain ⟨b, hb, h6, _⟩ := b2 b' hb'
   exact ⟨b, hb, h6⟩
theorem A4b {α β : Type} {x : A2m α} {k : α → A2m β} {e : Int} (h : x.bind k = .bad e) : x = .bad e ∨ ∃ a, x = .ok a ∧ k a = .bad e := by
 cases x with
 | ok a => exact .inr ⟨a, rfl, h⟩
 | bad e' => injection h with h; subst h; exact .inl rfl
theorem C7y {k : Int} {c : C} {e : Int} : ∀ {ts : List T} {i : Nat}, A6t A k i ts c = .bad e → ∃ j, j < ts.length ∧ (A.kid c (binds k ((i + j : Nat) : Int)) = .bad e ∨ ∃ c', A.kid c (binds k ((i + j : Nat) : Int)) = .ok c' ∧ A7h A (ts.getD j t0) c' = .bad e)
 | [], i, h => by rw [A6s] at h; cases h
 | t :: ts, i, h => by
  rw [A4k] at h
  rcases A4b h with h | ⟨c', h1, h⟩
  ·exact ⟨0, by simp, .inl (by simpa using h)⟩
  ·rcases A4b h with h | ⟨t', h2, h⟩
   ·exact ⟨0, by simp, .inr ⟨c', by simpa using h1, by simpa using h⟩⟩
   ·rcases A4b h with h | ⟨ts', h3, h⟩
    ·obtain ⟨j, hj, h4⟩ := C7y h
     refine ⟨j + 1, by simpa using hj, ?_⟩
     rw [List.getD_cons_succ, show i + (j + 1) = i + 1 + j by omega]; exact h4
    ·cases h
theorem C7u {k : Int} {c : C} {e : Int} : ∀ {ts : List T}, A5h A k ts c = .bad e → ∃ j, j < ts.length ∧ (A.kid c (0, more k) = .bad e ∨ ∃ c', A.kid c (0, more k) = .ok c' ∧ A7h A (ts.getD j t0) c' = .bad e)
 | [], h => by rw [A6r] at h; cases h
 | t :: ts, h => by
  rw [A4j] at h
  rcases A4b h with h | ⟨c', h1, h⟩
  ·exact ⟨0, by simp, .inl h⟩
  ·rcases A4b h with h | ⟨t', h2, h⟩
   ·exact ⟨0, by simp, .inr ⟨c', h1, by simpa using h⟩⟩
   ·rcases A4b h with h | ⟨ts', h3, h⟩
    ·obtain ⟨j, hj, h4⟩ := C7u h
     exact ⟨j + 1, by simpa using hj, by rw [List.getD_cons_succ]; exact h4⟩
    ·cases h
theorem C0i {k : Int} {c : C} {e : Int} : ∀ {bs : List Br}, A6v A k bs c = .bad e → ∃ b, b ∈ bs ∧ (A.A1z c b.A1z = .bad e ∨ A5h A k b.kids c = .bad e)
 | [], h => by rw [A6u] at h; cases h
 | b :: bs, h => by
  rw [A4s] at h
  rcases A4b h with h | ⟨o, h1, h⟩
  ·exact ⟨b, List.mem_cons_self, .inl h⟩
  ·cases o with
   | none => obtain ⟨x, hx, h⟩ := C0i h; exact ⟨x, List.mem_cons_of_mem _ hx, h⟩
   | some f' =>
    rcases A4b h with h | ⟨ks, h2, h⟩
    ·exact ⟨b, List.mem_cons_self, .inr h⟩
    ·rcases A4b h with h | ⟨us, h3, h⟩
     ·obtain ⟨x, hx, h⟩ := C0i h; exact ⟨x, List.mem_cons_of_mem _ hx, h⟩
     ·cases h
theorem D4p {t : T} {c : C} {e : Int} (h : A7h A t c = .bad e) : A.own c t.kind t.n t.name t.r = .bad e ∨ (∃ b, b ∈ t.sys ∧ A.A1z c b.A1z = .bad e) ∨ ∃ p, p ∈ parts t ∧ (A.kid c p.2 = .bad e ∨ ∃ c', A.kid c p.2 = .ok c' ∧ A7h A p.1 c' = .bad e) := by
 rw [A9s] at h
 rcases A4b h with h | ⟨o, h1, h⟩
 ·exact .inl h
 ·cases o with
  | inl u => cases h
  | inr p =>
   rcases A4b h with h | ⟨ks, h2, h⟩
   ·obtain ⟨j, hj, h3⟩ := C7y h
    rw [Nat.zero_add] at h3
    exact .inr (.inr ⟨_, List.mem_of_getElem? (A6x t j hj), h3⟩)
   ·rcases A4b h with h | ⟨ss, h3, h⟩
    ·obtain ⟨b, hb, h4⟩ := C0i h
     rcases h4 with h4 | h4
     ·exact .inr (.inl ⟨b, hb, h4⟩)
     ·obtain ⟨j, hj, h5⟩ := C7u h4
      obtain ⟨s, hs, e2⟩ := C6o (d := br0) hb
      refine .inr (.inr ⟨_, List.mem_of_getElem? (A7l t s j hs (by rw [e2]; exact hj)), ?_⟩)
      rw [e2]; exact h5
    ·cases h
end
end Go.Hy
namespace Go.Hy
/-! ### Dimensions, bit by bit -/
theorem E5d {l : List Cl} {i : Nat} : (A4e l).testBit i = true ↔ i < 24 ∧ ∃ c, c ∈ l ∧ (c.pos ||| c.neg).testBit i = true := by
 unfold A4e
 rw [A6d, Bool.and_eq_true, decide_eq_true_eq, D6l (fun c : Cl => c.pos ||| c.neg)]
 simp
/-! ### What a lift does to the bits -/
theorem C6p {s : Nat} {f b : Int} (h : (A0l s f b).1 = 0) (i : Nat) (hi : (A0l s f b).2.testBit i = true) : ∃ j, j < 24 ∧ s.testBit j = true ∧ (((j : Int) < f ∧ i = j) ∨ (f ≤ (j : Int) ∨ 24 ≤ j) ∧ (i : Int) = j + b) := by
 obtain ⟨h0, h1, h2⟩ := B3i h i
 rw [h2, Bool.or_eq_true, Bool.and_eq_true, Bool.and_eq_true, decide_eq_true_eq, decide_eq_true_eq, A6d, A6d, Bool.and_eq_true, Bool.and_eq_true, decide_eq_true_eq, decide_eq_true_eq] at hi
 rcases hi with ⟨h3, h4, h5⟩ | ⟨h3, h4, h5⟩
 ·exact ⟨i, h4, h5, .inl ⟨by omega, rfl⟩⟩
 ·exact ⟨i - b.toNat, h4, h5, .inr ⟨by omega, by omega⟩⟩
theorem B1v {t : T} (h : A9p t) {p : Part} (hp : p ∈ parts t) : A9p p.1 := (C4x.mp h).2 p hp
end Go.Hy
namespace Go.Hy
/-! ### Sizes as sums -/
def B7o : List T → Nat
 | [] => 0
 | t :: ts => size t + B7o ts
def C8o : List Br → Nat
 | [] => 0
 | b :: bs => B7o b.kids + C8o bs
theorem foldl_add {α : Type} (f : α → Nat) : ∀ (l : List α) (a : Nat), l.foldl (fun a p => a + f p) a = a + l.foldl (fun a p => a + f p) 0
 | [], a => rfl
 | x :: l, a => by rw [List.foldl_cons, List.foldl_cons, foldl_add f l (a + f x), foldl_add f l (0 + f x)]; omega
theorem C3n (t : T) : size t = 1 + B7o t.kids + C8o t.sys := by
 have hk : ∀ (k : Int) (ts : List T) (i : Nat), (A4g k i ts).foldl (fun a p => a + size p.1) 0 = B7o ts := by
  intro k ts
  induction ts with
  | nil => intro i; rfl
  | cons t ts ih => intro i; rw [A4g, List.foldl_cons, foldl_add, ih, B7o]; simp only; omega
 have hm : ∀ (ts : List T) (b : Int × Int), (ts.map fun k => ((k, b.1, b.2) : Part)).foldl (fun a p => a + size p.1) 0 = B7o ts := by
  intro ts b
  induction ts with
  | nil => rfl
  | cons t ts ih => rw [List.map_cons, List.foldl_cons, foldl_add, ih, B7o]; simp only; omega
 have hs : ∀ (k : Int) (bs : List Br), (A3f k bs).foldl (fun a p => a + size p.1) 0 = C8o bs := by
  intro k bs
  induction bs with
  | nil => rfl
  | cons b bs ih => rw [A3f, List.foldl_append, foldl_add, ih, hm b.kids (0, more k), C8o]
 rw [size_eq, parts, List.foldl_append, foldl_add, hs, foldl_add, hk]
section
variable {t u : T} {n : Int}
end
end Go.Hy
namespace Go.Hy
/-! ### Lifted rows, clause by clause -/
theorem A9n {s : Nat} {f b : Int} (h : (A0l s f b).1 = 0) (i : Nat) : (A0l s f b).2.testBit i = true ↔ ∃ j, j < 24 ∧ s.testBit j = true ∧ (((j : Int) < f ∧ i = j) ∨ (f ≤ (j : Int) ∧ (i : Int) = j + b)) := by
 obtain ⟨h0, h1, h2⟩ := B3i h i
 constructor
 ·intro hi
  obtain ⟨j, h3, h4, h5⟩ := C6p h i hi
  exact ⟨j, h3, h4, by omega⟩
 ·rintro ⟨j, h3, h4, h5⟩
  rw [h2, Bool.or_eq_true, Bool.and_eq_true, Bool.and_eq_true, decide_eq_true_eq, decide_eq_true_eq, A6d, A6d, Bool.and_eq_true, Bool.and_eq_true, decide_eq_true_eq, decide_eq_true_eq]
  rcases h5 with ⟨h5, rfl⟩ | ⟨h5, h6⟩
  ·exact .inl ⟨by omega, h3, h4⟩
  ·refine .inr ⟨by omega, ?_⟩
   rw [show i - b.toNat = j by omega]
   exact ⟨h3, h4⟩
theorem A2z {c : Cl} : A0q c = true ↔ c.pos < 16777216 ∧ c.neg < 16777216 := by unfold A0q; rw [Bool.and_eq_true, decide_eq_true_eq, decide_eq_true_eq]
/-! ### Two ways and two others -/
section
variable {CA CB CC CD : Type} {A : Tr CA} {B : Tr CB} {C : Tr CC} {D : Tr CD} (R : CA → CB → CC → CD → Prop)
variable {R}
end
end Go.Hy
namespace Go.Hy
/-! ### The document's lift of a mask: its list, number by number -/
theorem B3v : ∀ {l m : List Int}, (l.Pairwise fun a b => a < b) → (m.Pairwise fun a b => a < b) → (∀ x, x ∈ l ↔ x ∈ m) → l = m
 | [], [], _, _, _ => rfl
 | [], b :: m, _, _, h => by have := (h b).mpr List.mem_cons_self; cases this
 | a :: l, [], _, _, h => by have := (h a).mp List.mem_cons_self; cases this
 | a :: l, b :: m, hl, hm, h => by
  obtain ⟨l1, l2⟩ := List.pairwise_cons.mp hl
  obtain ⟨m1, m2⟩ := List.pairwise_cons.mp hm
  have hab : a = b := by
   rcases List.mem_cons.mp ((h a).mp List.mem_cons_self) with h1 | h1
   ·exact h1
   ·rcases List.mem_cons.mp ((h b).mpr List.mem_cons_self) with h2 | h2
    ·exact h2.symm
    ·have := l1 b h2; have := m1 a h1; omega
  subst hab
  have : l = m := B3v l2 m2 fun x => by
   constructor
   ·intro hx
    rcases List.mem_cons.mp ((h x).mp (List.mem_cons_of_mem _ hx)) with h1 | h1
    ·subst h1; have := l1 x hx; omega
    ·exact h1
   ·intro hx
    rcases List.mem_cons.mp ((h x).mpr (List.mem_cons_of_mem _ hx)) with h1 | h1
    ·subst h1; have := m1 x hx; omega
    ·exact h1
  rw [this]
def shI (f b x : Int) : Int := if x < f then x else x + b
theorem E8s {s : Nat} {f b x : Int} (h0 : 0 ≤ f) (hb : 0 ≤ b) (hx : x ∈ A0g s) (hf : f ≤ x) (h : 24 ≤ x + b) : A0l s f b = (10, 0) := by
 obtain ⟨x0, x1, x2⟩ := A3y.mp hx
 have hbit : (A1f (s &&& 16777215) (2 ^ (min f.toNat 24) - 1)).testBit x.toNat = true := by
  rw [A7e, B4e, A6d, x2, decide_eq_true (by omega), decide_eq_true (by omega), decide_eq_false (by omega)]; rfl
 have hge := Nat.ge_two_pow_of_testBit hbit
 unfold A0l
 rw [if_neg (by omega), if_neg (fun h1 => by rw [h1, Nat.zero_testBit] at hbit; cases hbit), if_pos]
 by_cases h24 : 24 ≤ b
 ·exact .inl h24
 ·right
  have h1 : 2 ^ x.toNat * 2 ^ b.toNat ≤ A1f (s &&& 16777215) (2 ^ (min f.toNat 24) - 1) * 2 ^ b.toNat := Nat.mul_le_mul_right _ hge
  rw [← Nat.pow_add] at h1
  have h2 : 2 ^ 24 ≤ 2 ^ (x.toNat + b.toNat) := Nat.pow_le_pow_right (by omega) (by omega)
  have h3 : (2 : Nat) ^ 24 = 16777216 := by decide
  omega
theorem E4h {s : Nat} {f b : Int} (h0 : 0 ≤ f) (hb : 0 ≤ b) (h : ∀ x, x ∈ A0g s → x < f ∨ x + b < 24) : A0l s f b = (0, B2d ((A0g s).map (shI f b))) := by
 have h1 : (A0l s f b).1 = 0 := by
  unfold A0l
  rw [if_neg (by omega)]
  split
  ·rfl
  ·rename_i h2
   rw [if_neg]
   have hbits : ∀ i, (A1f (s &&& 16777215) (2 ^ (min f.toNat 24) - 1)).testBit i = true → (i : Int) + b < 24 := fun i hi => by
    rw [A7e, B4e, A6d] at hi
    simp only [Bool.and_eq_true, decide_eq_true_eq, Bool.not_eq_true', decide_eq_false_iff_not] at hi
    have hm : (i : Int) ∈ A0g s := A3y.mpr ⟨by omega, by omega, by simpa using hi.1.2.2⟩
    rcases h _ hm with h3 | h3 <;> omega
   obtain ⟨i, hi⟩ : ∃ i, (A1f (s &&& 16777215) (2 ^ (min f.toNat 24) - 1)).testBit i = true := by
    refine Classical.byContradiction fun hn => h2 (Nat.eq_of_testBit_eq fun i => ?_)
    rw [Nat.zero_testBit]
    cases hh : (A1f (s &&& 16777215) (2 ^ (min f.toNat 24) - 1)).testBit i with
    | false => rfl
    | true => exact absurd ⟨i, hh⟩ hn
   have hb24 := hbits i hi
   have hlt : A1f (s &&& 16777215) (2 ^ (min f.toNat 24) - 1) < 2 ^ (24 - b.toNat) := Nat.lt_pow_two_of_testBit _ fun j hj => by
    cases hh : (A1f (s &&& 16777215) (2 ^ (min f.toNat 24) - 1)).testBit j with
    | false => rfl
    | true => have := hbits j hh; omega
   rintro (h3 | h3)
   ·omega
   ·have h4 : A1f (s &&& 16777215) (2 ^ (min f.toNat 24) - 1) * 2 ^ b.toNat < 2 ^ (24 - b.toNat) * 2 ^ b.toNat := Nat.mul_lt_mul_of_pos_right hlt (Nat.pow_pos (by omega))
    rw [← Nat.pow_add, show 24 - b.toNat + b.toNat = 24 by omega] at h4
    have h5 : (2 : Nat) ^ 24 = 16777216 := by decide
    omega
 refine Prod.ext h1 ?_
 have hlt := A7r s f b
 have e1 : (A0l s f b).2 = B2d (A0g (A0l s f b).2) := by rw [B7q, D4h]; exact (Nat.mod_eq_of_lt hlt).symm
 rw [e1]
 show B2d _ = B2d _
 congr 1
 refine B3v (B2o _ _) ?_ fun x => ?_
 ·rw [List.pairwise_map]
  refine (B2o s 24).imp fun {a c} hac => ?_
  unfold shI
  split <;> split <;> omega
 ·rw [List.mem_map]
  constructor
  ·intro hx
   obtain ⟨x0, x1, x2⟩ := A3y.mp hx
   obtain ⟨j, h2, h3, h4⟩ := (A9n h1 x.toNat).mp x2
   refine ⟨(j : Int), A3y.mpr ⟨by omega, by omega, by simpa using h3⟩, ?_⟩
   unfold shI
   split <;> omega
  ·rintro ⟨y, hy, rfl⟩
   obtain ⟨y0, y1, y2⟩ := A3y.mp hy
   have hsh : 0 ≤ shI f b y ∧ shI f b y < 24 := by
    unfold shI
    rcases h y hy with h2 | h2 <;> split <;> omega
   refine A3y.mpr ⟨hsh.1, hsh.2, (A9n h1 _).mpr ⟨y.toNat, by omega, y2, ?_⟩⟩
   unfold shI at hsh ⊢
   split <;> omega
end Go.Hy
namespace Go.Hy
/-! ### A mask's least number, and the rest -/
theorem B4g (s : Nat) : (A0g s).Pairwise fun a b => a < b := by
 unfold A0g A2f
 rw [List.pairwise_map]
 refine List.Pairwise.filter _ ?_
 exact List.pairwise_lt_range.imp fun h => by omega
theorem E4l (s : Nat) : A0g (s &&& 16777215) = A0g s := by
 refine B3v (B4g _) (B4g _) fun x => ?_
 rw [A3y, A3y, A6d]
 constructor
 ·rintro ⟨h1, h2, h3⟩
  rw [Bool.and_eq_true] at h3
  exact ⟨h1, h2, h3.2⟩
 ·rintro ⟨h1, h2, h3⟩
  exact ⟨h1, h2, by rw [h3, decide_eq_true (by omega)]; rfl⟩
theorem E4k {r : Nat} (h0 : ¬ r = 0) (h : r < 4294967296) : ∃ m, r = 2 ^ Lib.ctz 32 r * (2 * m + 1) ∧ Lib.ctz 32 r < 32 := by
 obtain ⟨m, h1, h2⟩ := Lib.ctzFrom_spec 32 r (by omega) h
 have e : Lib.ctz 32 r = Lib.ctzFrom 32 r := by unfold Lib.ctz; rw [if_neg h0]
 rw [e]
 exact ⟨m, h1, h2⟩
theorem F4a {r k m i : Nat} (h : r = 2 ^ k * (2 * m + 1)) : (r &&& (r - 1)).testBit i = (r.testBit i && decide (i ≠ k)) ∧ r.testBit k = true ∧ (i < k → r.testBit i = false) := by
 have hp : 0 < 2 ^ k := Nat.pow_pos (by decide)
 have e1 : r = 2 ^ (k + 1) * m + 2 ^ k := by rw [h, Nat.pow_succ, Nat.mul_add, Nat.mul_assoc]; simp
 have e2 : r - 1 = 2 ^ (k + 1) * m + (2 ^ k - 1) := by omega
 have hb1 : 2 ^ k < 2 ^ (k + 1) := by rw [Nat.pow_succ]; omega
 have hb2 : 2 ^ k - 1 < 2 ^ (k + 1) := by omega
 have t1 : ∀ j, r.testBit j = if j < k + 1 then (2 ^ k).testBit j else m.testBit (j - (k + 1)) := fun j => by rw [e1]; exact Nat.testBit_two_pow_mul_add m hb1 j
 have t2 : ∀ j, (r - 1).testBit j = if j < k + 1 then (2 ^ k - 1).testBit j else m.testBit (j - (k + 1)) := fun j => by rw [e2]; exact Nat.testBit_two_pow_mul_add m hb2 j
 refine ⟨?_, by rw [t1, if_pos (by omega), Nat.testBit_two_pow_self], fun hi => by rw [t1, if_pos (by omega), Nat.testBit_two_pow_of_ne (by omega)]⟩
 rw [Nat.testBit_and, t1, t2]
 by_cases hi : i < k + 1
 ·rw [if_pos hi, if_pos hi, Nat.testBit_two_pow, Nat.testBit_two_pow_sub_one]
  by_cases hk : k = i
  ·subst hk; simp
  ·simp [hk]
 ·rw [if_neg hi, if_neg hi]
  have : i ≠ k := by omega
  simp [this]
theorem C9z {r : Nat} (h0 : ¬ r = 0) (h : r < 16777216) : Lib.ctz 32 r < 24 ∧ A0g r = (Lib.ctz 32 r : Int) :: A0g (r &&& (r - 1)) := by
 obtain ⟨m, h1, h2⟩ := E4k h0 (by omega)
 have hb := fun i => F4a (i := i) h1
 have hk : Lib.ctz 32 r < 24 := Decidable.byContradiction fun hn => by
  have h3 := Nat.ge_two_pow_of_testBit (hb 0).2.1
  have h4 : 2 ^ 24 ≤ 2 ^ Lib.ctz 32 r := Nat.pow_le_pow_right (by decide) (by omega)
  omega
 refine ⟨hk, B3v (B4g _) (List.pairwise_cons.mpr ⟨fun x hx => ?_, B4g _⟩) fun x => ?_⟩
 ·obtain ⟨x0, x1, x2⟩ := A3y.mp hx
  rw [(hb x.toNat).1, Bool.and_eq_true, decide_eq_true_eq] at x2
  have : ¬ x.toNat < Lib.ctz 32 r := fun hlt => by have := (hb x.toNat).2.2 hlt; rw [x2.1] at this; cases this
  omega
 ·rw [List.mem_cons, A3y, A3y, (hb x.toNat).1, Bool.and_eq_true, decide_eq_true_eq]
  constructor
  ·rintro ⟨x0, x1, x2⟩
   by_cases hx : x = (Lib.ctz 32 r : Int)
   ·exact .inl hx
   ·exact .inr ⟨x0, x1, x2, by omega⟩
  ·rintro (rfl | ⟨x0, x1, x2, _⟩)
   ·exact ⟨by omega, by omega, by rw [Int.toNat_natCast]; exact (hb 0).2.1⟩
   ·exact ⟨x0, x1, x2⟩
theorem F7z {r : Nat} (h0 : ¬ r = 0) : r &&& (r - 1) < r := Nat.lt_of_le_of_lt Nat.and_le_right (by omega)
end Go.Hy
namespace Go.Hy
/-! Counting bits: the library's table of bytes. -/
def G1j : ByteArray := ⟨#[0, 1, 1, 2, 1, 2, 2, 3, 1, 2, 2, 3, 2, 3, 3, 4, 1, 2, 2, 3, 2, 3, 3, 4, 2, 3, 3, 4, 3, 4, 4, 5, 1, 2, 2, 3, 2, 3, 3, 4, 2, 3, 3, 4, 3, 4, 4, 5, 2, 3, 3, 4, 3, 4, 4, 5, 3, 4, 4, 5, 4, 5, 5, 6, 1, 2, 2, 3, 2, 3, 3, 4, 2, 3, 3, 4, 3, 4, 4, 5, 2, 3, 3, 4, 3, 4, 4, 5, 3, 4, 4, 5, 4, 5, 5, 6, 2, 3, 3, 4, 3, 4, 4, 5, 3, 4, 4, 5, 4, 5, 5, 6, 3, 4, 4, 5, 4, 5, 5, 6, 4, 5, 5, 6, 5, 6, 6, 7, 1, 2, 2, 3, 2, 3, 3, 4, 2, 3, 3, 4, 3, 4, 4, 5, 2, 3, 3, 4, 3, 4, 4, 5, 3, 4, 4, 5, 4, 5, 5, 6, 2, 3, 3, 4, 3, 4, 4, 5, 3, 4, 4, 5, 4, 5, 5, 6, 3, 4, 4, 5, 4, 5, 5, 6, 4, 5, 5, 6, 5, 6, 6, 7, 2, 3, 3, 4, 3, 4, 4, 5, 3, 4, 4, 5, 4, 5, 5, 6, 3, 4, 4, 5, 4, 5, 5, 6, 4, 5, 5, 6, 5, 6, 6, 7, 3, 4, 4, 5, 4, 5, 5, 6, 4, 5, 5, 6, 5, 6, 6, 7, 4, 5, 5, 6, 5, 6, 6, 7, 5, 6, 6, 7, 6, 7, 7, 8]⟩
def C1b (j : Nat) : Nat := j % 2 + j / 2 % 2 + j / 4 % 2 + j / 8 % 2 + j / 16 % 2 + j / 32 % 2 + j / 64 % 2 + j / 128 % 2
theorem C9j : ∀ j, j < 256 → G1j[j]? = some (UInt8.ofNat (C1b j)) ∧ C1b j ≤ 8 := by decide +kernel
def B7v (s : Nat) : Nat := C1b (s / 16777216) + C1b (s / 65536 &&& 255) + C1b (s / 256 &&& 255) + C1b (s &&& 255)
theorem E2m : ∀ k, k < 24 → B7v (2 ^ k) = 1 := by decide +kernel
theorem D8e : B7v 0 = 0 := by decide
theorem D7a (s : Nat) : s &&& 255 < 256 := Nat.lt_of_le_of_lt Nat.and_le_right (by decide)
section
variable {tn : Bool} {pn : Nat} {P : Program} [Tab P] {f : FuncId} {R : Ending → World → Prop} {B : A6n} {n : Fz} {K : List Item} {ops : Array Oper} {i : Nat} {l fin : List Nat} {σ : Nat → Value} {Γ : List Fact} {Ms Ms2 : List Res}
variable {dst : Option Tmp} {op : Op} {ty : TypeId} {pos : String} {after : Array Edge} {v : Value} {x y z : Operand}
theorem D3a {t : TypeId} {s : ByteArray} {j : Nat} (hu : Tab.und P t = some .string) (hx : ev σ x = .string s) (hs : s = G1j) (hy : ev σ y = .int .u32 (j : Int)) (hj : j < 256) : A3j P σ (.index t x y) ty (.int .u8 (C1b j : Nat)) := fun w => by
 subst hs
 have h := (C9j j hj)
 have e : ((UInt8.ofNat (C1b j)).toNat : Int) = (C1b j : Nat) := by
  rw [UInt8.toNat_ofNat']
  have := h.2
  omega
 simp [opr, execOp, hx, hy, Instr.index, asIntOf, A4r hu, h.1]
 have := h.2
 omega
theorem E7w {t t' : TypeId} {a b : Nat} (hx : ev σ x = .int .u8 (a : Nat)) (hy : ev σ y = .int .u8 (b : Nat)) (h : a + b < 256) : A3j P σ (.binOp .add t x y t') ty (.int .u8 ((a + b : Nat) : Int)) :=
 A4f hx hy (fun w => A2b w) (fun w => by
  have e : IntKind.u8.wrap ((a : Int) + (b : Int)) = ((a + b : Nat) : Int) := by simp [IntKind.wrap, IntKind.signed, IntKind.bits]; omega
  show Result.ok (Value.int .u8 (IntKind.u8.wrap ((a : Int) + (b : Int)))) w = _
  rw [e])
theorem E2x {s d : TypeId} {ds : TypeDesc} {a : Nat} (hs : Tab.und P s = some ds) (hd : Tab.und P d = some (.int .i64)) (hx : ev σ x = .int .u8 (a : Nat)) (ha : a < 256) : A3j P σ (.convert s d x) ty (.int .i64 (a : Int)) := by
 have h := A8v hs hd hx (ty := ty)
 rwa [show IntKind.i64.wrap (a : Int) = (a : Int) by rw [IntKind.wrap_i64]; omega] at h
theorem C5n {t : TypeId} {s : ByteArray} {j : Nat} (k_ : NV tn pn P f R B n K ops fin l (A1u σ dst (.int .u8 (C1b j : Nat))) Γ Ms) (hx : ev σ x = .string s := by exact wn_) (hy : ev σ y = .int .u32 (j : Int) := by exact wn_) (hs : s = G1j := by rfl) (hu : Tab.und P t = some .string := by rfl) (hj : j < 256 := by first | omega | exact D7a _) (hd : A0s n dst = true := by rfl) : NvT tn pn P f R B n K ops fin i l dst (.index t x y) ty σ Γ Ms := A3r (D3a hu hx hs hy hj) hd k_
theorem D1y {t t' : TypeId} {a b : Nat} (k_ : NV tn pn P f R B n K ops fin l (A1u σ dst (.int .u8 ((a + b : Nat) : Int))) Γ Ms) (hx : ev σ x = .int .u8 (a : Nat) := by exact wn_) (hy : ev σ y = .int .u8 (b : Nat) := by exact wn_) (h : a + b < 256 := by omega) (hd : A0s n dst = true := by rfl) : NvT tn pn P f R B n K ops fin i l dst (.binOp .add t x y t') ty σ Γ Ms := A3r (E7w hx hy h) hd k_
theorem E6r {s d : TypeId} {ds : TypeDesc} {a : Nat} (k_ : NV tn pn P f R B n K ops fin l (A1u σ dst (.int .i64 (a : Int))) Γ Ms) (hx : ev σ x = .int .u8 (a : Nat) := by exact wn_) (hs : Tab.und P s = some ds := by rfl) (hd' : Tab.und P d = some (.int .i64) := by rfl) (ha : a < 256 := by omega) (hd : A0s n dst = true := by rfl) : NvT tn pn P f R B n K ops fin i l dst (.convert s d x) ty σ Γ Ms := A3r (E2x hs hd' hx ha) hd k_
end
end Go.Hy
namespace Go.Hy
/-! ### The document's lift against the program's -/
theorem C4r {l : List Cl} (h : (A0w l).1 ≠ 0) : (A0w l).2 = [] := by
 unfold A0w at h ⊢
 split
 ·rfl
 ·rename_i h1
  rw [if_neg h1] at h
  split
  ·rfl
  ·rename_i h2
   rw [if_neg h2] at h
   exact absurd rfl h
theorem E9h {l : List Cl} {f b : Int} : 0 ≤ (A0t l f b).1 := by
 have hl : ∀ m : List Cl, 0 ≤ (A0w m).1 := fun m => by rcases A7a m with h | h | h <;> omega
 unfold A0t
 split
 ·exact (show (0 : Int) ≤ 2 by omega)
 ·split
  ·unfold A7s
   split
   ·rename_i c _
    rcases C5d c f b with h | h | h <;> (simp only; omega)
   ·exact Int.le_refl 0
  ·exact hl _
theorem F4r {l : List Cl} {f b : Int} : (A0t l f b).1 ≤ 10 := by
 have hl : ∀ m : List Cl, (A0w m).1 ≤ 10 := fun m => by rcases A7a m with h | h | h <;> omega
 unfold A0t
 split
 ·exact (show (2 : Int) ≤ 10 by omega)
 ·split
  ·unfold A7s
   split
   ·rename_i c _
    rcases C5d c f b with h | h | h <;> (simp only; omega)
   ·exact (show (0 : Int) ≤ 10 by omega)
  ·exact hl _
def C3t (e : Int) : T := .mk (-e) 0 ⟨#[]⟩ [] [] []
theorem B3m {t : T} (h : A9p t) : 0 ≤ t.kind := by
 have h2 := (D0o.mp h).2.1
 unfold A3w at h2
 repeat' split at h2
 all_goals omega
theorem B3d {e : Int} (h : 0 < e) : (C3t e).kind < 0 := by show -e < 0; omega
end Go.Hy
namespace Go.Hy
/-! ### Formulas and faces: what the program makes of them -/
abbrev EL : Type := Int × List Cl
def A7i (i : Int) : Nat := if 0 ≤ i ∧ i < 24 then 2 ^ i.toNat else 0
def B0v (s : Nat) (i : Int) : Nat := if 0 ≤ i ∧ i < 24 then (s &&& 16777215) ||| 2 ^ i.toNat else s &&& 16777215
def A1e (s : Nat) (i : Int) : Nat := if 0 ≤ i ∧ i < 24 then A1f (s &&& 16777215) (2 ^ i.toNat) else s &&& 16777215
theorem B0i (i : Int) : B0v 0 i = A7i i := by unfold B0v A7i; split <;> simp
theorem A9y (i : Int) : A7i i < 16777216 := by
 unfold A7i
 split
 ·exact Nat.pow_lt_pow_right (n := 24) (a := 2) (by decide) (by omega)
 ·decide
theorem C5k (s : Nat) (i : Int) : B0v s i < 16777216 := by
 unfold B0v
 split
 ·exact Nat.or_lt_two_pow (n := 24) (by have := A7q s; omega) (Nat.pow_lt_pow_right (n := 24) (a := 2) (by decide) (by omega))
 ·exact A7q s
theorem A4z (s : Nat) (i : Int) : A1e s i < 16777216 := by
 unfold A1e
 split
 ·rw [show (16777216 : Nat) = 2 ^ 24 from rfl]
  exact Nat.lt_pow_two_of_testBit _ fun j hj => by
   rw [A7e, A6d, decide_eq_false (show ¬ j < 24 by omega)]; simp
 ·exact A7q s
theorem E9e (s : Nat) (i : Int) : ((decide (0 ≤ i) && decide (i < 24)) && decide (((s / 2 ^ (min i.toNat 32) &&& 1 : Nat) : Int) = 1)) = A3e s i := by
 rw [B3l, Nat.and_one_is_mod]
 by_cases h : 0 ≤ i ∧ i < 24
 ·rw [show min i.toNat 32 = i.toNat by omega]
  congr 1
  exact decide_eq_decide.mpr (by omega)
 ·have : (decide (0 ≤ i) && decide (i < 24)) = false := by simp; omega
  rw [this]; rfl
def A5e (i : Int) : Bool := decide (0 ≤ i) && decide (i < 24)
theorem E2l {i : Int} (h : A5e i = true) : B7v (A7i i &&& 16777215) = 1 := by
 have h1 : 0 ≤ i ∧ i < 24 := by unfold A5e at h; simpa using h
 have h2 := A9y i
 rw [D4h, Nat.mod_eq_of_lt (by omega)]
 unfold A7i
 rw [if_pos h1]
 exact E2m _ (by omega)
theorem D5g {i : Int} (h : A5e i = false) : B7v (A7i i &&& 16777215) = 0 := by
 have h1 : ¬ (0 ≤ i ∧ i < 24) := by unfold A5e at h; simp at h; omega
 unfold A7i
 rw [if_neg h1]
 exact D8e
theorem E2k (i : Int) : decide (((B7v (A7i i &&& 16777215) : Nat) : Int) = 1) = A5e i := by
 cases h : A5e i
 ·rw [D5g h]; rfl
 ·rw [E2l h]; rfl
theorem D5h (i : Int) : decide (((B7v (A7i i &&& 16777215) : Nat) : Int) = 0) = !A5e i := by
 cases h : A5e i
 ·rw [D5g h]; rfl
 ·rw [E2l h]; rfl
def B0u (x : EL) (k : List Cl → EL) : EL := if x.1 ≠ 0 then (x.1, []) else k x.2
theorem A2g {x : EL} {k : List Cl → EL} (h : x.1 ≠ 0) : B0u x k = (x.1, []) := if_pos h
theorem A2k {x : EL} {k : List Cl → EL} (h : x.1 = 0) : B0u x k = k x.2 := if_neg (by simp [h])
/-- On from a list, clause by clause. -/
def A3u (g : List Cl → Cl → EL) : List Cl → List Cl → EL
 | h, [] => (0, h)
 | h, c :: cs => B0u (g h c) fun h' => A3u g h' cs
theorem C6v {g : List Cl → Cl → EL} : ∀ {l m h h' : List Cl}, A3u g h l = (0, h') → A3u g h (l ++ m) = A3u g h' m
 | [], m, h, h', e => by
  rw [A3u, Prod.mk.injEq] at e
  rw [List.nil_append, e.2]
 | d :: l, m, h, h', e => by
  rw [A3u] at e
  by_cases h0 : (g h d).1 = 0
  ·rw [A2k h0] at e
   rw [List.cons_append, A3u, A2k h0]
   exact C6v e
  ·rw [A2g h0, Prod.mk.injEq] at e
   exact absurd e.1 h0
theorem B2s {g : List Cl → Cl → EL} {l h h' : List Cl} {i : Nat} (hi : i < l.length) (e : A3u g h (l.take i) = (0, h')) (h0 : (g h' (l.getD i cl0)).1 = 0) : A3u g h (l.take (i + 1)) = (0, (g h' (l.getD i cl0)).2) := by
 rw [A0i (d := cl0) hi, C6v e, A3u, A2k h0, A3u]
theorem A7c {g : List Cl → Cl → EL} {l h h' : List Cl} {i : Nat} (hi : i < l.length) (e : A3u g h (l.take i) = (0, h')) (h0 : (g h' (l.getD i cl0)).1 ≠ 0) : A3u g h l = ((g h' (l.getD i cl0)).1, []) := by
 have e2 : l = l.take i ++ l.getD i cl0 :: l.drop (i + 1) := by rw [A5g (d := cl0) hi, List.getElem_cons_drop, List.take_append_drop]
 rw [e2, C6v e, ← e2, A3u, A2g h0]
theorem C2d {g : List Cl → Cl → EL} {l h h' : List Cl} {i : Nat} (hi : i = l.length) (e : A3u g h (l.take i) = (0, h')) : A3u g h l = (0, h') := by
 rw [hi, List.take_length] at e
 exact e
/-! Formulas. -/
def A7b (f g : List Cl) : EL := A0w (f ++ g)
def A9w (f g : List Cl) : List Cl := f.flatMap fun a => g.map fun b => A4d a b
def A9m (f g : List Cl) : EL := A0w (A9w f g)
def E0c (c : Cl) : List Cl := ((A0g c.pos).map fun i => (⟨0, A7i i⟩ : Cl)) ++ ((A0g c.neg).map fun i => (⟨A7i i, 0⟩ : Cl))
def C4e (c : Cl) : EL := A0w (E0c c)
def A3d (h : List Cl) (c : Cl) : EL := B0u (C4e c) fun o => A9m h o
def B4y (f : List Cl) : EL := A3u A3d [cl0] f
def A4v (f : List Cl) : EL := if A0h f then B4y f else (2, [])
def A0j (c : Cl) (i : Int) : Cl := ⟨A1e c.pos i, A1e c.neg i⟩
def A3x (i : Int) (r : List Cl) (c : Cl) : EL := if A3e c.pos i then A9m [A0j c i] r else (0, [A0j c i])
def A7v (i : Int) (r : List Cl) (c : Cl) (g : List Cl) : EL := if A3e c.neg i then B0u (B4y r) fun s => A9m g s else (0, g)
def A2i (i : Int) (r h : List Cl) (c : Cl) : EL := B0u (A3x i r c) fun g => B0u (A7v i r c g) fun g => A7b h g
theorem B8z {i : Int} {r h : List Cl} {c : Cl} {P : EL} (hP : A3x i r c = P) (h0 : P.1 ≠ 0) : A2i i r h c = (P.1, []) := by unfold A2i; rw [hP]; exact A2g h0
theorem A7u {i : Int} {r h : List Cl} {c : Cl} {P N : EL} (hP : A3x i r c = P) (h0 : P.1 = 0) (hN : A7v i r c P.2 = N) (h1 : N.1 ≠ 0) : A2i i r h c = (N.1, []) := by unfold A2i; rw [hP, A2k h0, hN]; exact A2g h1
theorem A8u {i : Int} {r h : List Cl} {c : Cl} {P N : EL} (hP : A3x i r c = P) (h0 : P.1 = 0) (hN : A7v i r c P.2 = N) (h1 : N.1 = 0) : A2i i r h c = A7b h N.2 := by unfold A2i; rw [hP, A2k h0, hN]; exact A2k h1
theorem C3u {i : Int} {r : List Cl} {c : Cl} {g : List Cl} {s : EL} (h : A3e c.neg i = true) (hs : s = B4y r) (h0 : s.1 ≠ 0) : A7v i r c g = (s.1, []) := by unfold A7v; rw [if_pos h, ← hs]; exact A2g h0
theorem B4a {i : Int} {r : List Cl} {c : Cl} {g : List Cl} {s m : EL} (h : A3e c.neg i = true) (hs : s = B4y r) (h0 : s.1 = 0) (hm : m = A9m g s.2) : A7v i r c g = m := by unfold A7v; rw [if_pos h, ← hs, hm]; exact A2k h0
theorem C9i {i : Int} {r : List Cl} {c : Cl} {g : List Cl} (h : A3e c.neg i = false) : A7v i r c g = (0, g) := by unfold A7v; rw [if_neg (by simp [h])]
def A1a (f : List Cl) (i : Int) (r : List Cl) : EL := if (A0h f && A0h r) = false then (2, []) else if A5e i = false then (2, []) else A3u (A2i i r) [] f
/-! Faces. -/
def A5t (l : List Cl) : List Cl := l.filter fun c => !A5s c
def ofF (f : List Cl) : EL := if A0h f then A0w (A5t f) else (2, [])
def A1b (r : List Cl) : EL := B0u (A4v r) ofF
def B0w (f g : List Cl) : EL := A0w (f.flatMap fun a => A5t (g.map fun b => A4d a b))
def A2l (i : Int) (r : List Cl) (c : Cl) : EL := if A3e c.pos i then B0u (ofF r) fun x => B0w [A0j c i] x else if A3e c.neg i then B0u (A1b r) fun x => B0w [A0j c i] x else (0, [A0j c i])
def A2d (i : Int) (r h : List Cl) (c : Cl) : EL := B0u (A2l i r c) fun g => A7b h g
theorem A8z {i : Int} {r h : List Cl} {c : Cl} {P : EL} (hP : A2l i r c = P) (h0 : P.1 = 0) : A2d i r h c = A7b h P.2 := by unfold A2d; rw [hP]; exact A2k h0
theorem A4x {i : Int} {r h : List Cl} {c : Cl} {P : EL} (hP : A2l i r c = P) (h0 : P.1 ≠ 0) : A2d i r h c = (P.1, []) := by unfold A2d; rw [hP]; exact A2g h0
theorem D0s {i : Int} {r : List Cl} {c : Cl} {q m : EL} (h : A3e c.pos i = true) (hq : q = ofF r) (h0 : q.1 = 0) (hm : m = B0w [A0j c i] q.2) : A2l i r c = m := by unfold A2l; rw [if_pos h, ← hq, hm]; exact A2k h0
theorem C6y {i : Int} {r : List Cl} {c : Cl} {q : EL} (h : A3e c.pos i = true) (hq : q = ofF r) (h0 : q.1 ≠ 0) : A2l i r c = (q.1, []) := by unfold A2l; rw [if_pos h, ← hq]; exact A2g h0
theorem D0t {i : Int} {r : List Cl} {c : Cl} {q m : EL} (h1 : A3e c.pos i = false) (h : A3e c.neg i = true) (hq : q = A1b r) (h0 : q.1 = 0) (hm : m = B0w [A0j c i] q.2) : A2l i r c = m := by unfold A2l; rw [if_neg (by simp [h1]), if_pos h, ← hq, hm]; exact A2k h0
theorem C6z {i : Int} {r : List Cl} {c : Cl} {q : EL} (h1 : A3e c.pos i = false) (h : A3e c.neg i = true) (hq : q = A1b r) (h0 : q.1 ≠ 0) : A2l i r c = (q.1, []) := by unfold A2l; rw [if_neg (by simp [h1]), if_pos h, ← hq]; exact A2g h0
theorem D3x {i : Int} {r : List Cl} {c : Cl} (h1 : A3e c.pos i = false) (h : A3e c.neg i = false) : A2l i r c = (0, [A0j c i]) := by unfold A2l; rw [if_neg (by simp [h1]), if_neg (by simp [h])]
def A0v (f : List Cl) (i : Int) (r : List Cl) : EL := if (A0d f && A5e i && A0h r) = false then (2, []) else A3u (A2d i r) [] f
def single (c : Cl) : Bool := A0q c && !A5s c
def A2o (f g : List Cl) : EL := if (A0d f && A0d g) = false then (2, []) else A7b f g
/-! ### Rows that may lie in memory -/
abbrev okE (x : EL) : Prop := A1n x.2
theorem E1r {l m : List Cl} (h : A1n l) (hs : ∀ c, c ∈ m → c ∈ l) (hl : m.length ≤ l.length) : A1n m := ⟨fun c hc => h.1 c (hs c hc), by have := h.2; omega⟩
theorem B1s {l : List Cl} (h : ∀ c, c ∈ l → u32 c) : okE (A0w l) := D0c h
theorem A9e {x : EL} {k : List Cl → EL} (h : x.1 = 0 → okE (k x.2)) : okE (B0u x k) := by
 by_cases h0 : x.1 = 0
 ·rw [A2k h0]; exact h h0
 ·rw [A2g h0]; exact A4u
theorem B9x {g : List Cl → Cl → EL} : ∀ {l h : List Cl}, (∀ h c, c ∈ l → A1n h → okE (g h c)) → A1n h → okE (A3u g h l)
 | [], h, _, h2 => h2
 | c :: l, h, h1, h2 => by
  rw [A3u]
  exact A9e fun _ => B9x (fun h' d hd => h1 h' d (List.mem_cons_of_mem _ hd)) (h1 h c List.mem_cons_self h2)
theorem B1y {a b : Cl} (h : u32 a) (h2 : u32 b) : u32 (A4d a b) := ⟨Nat.or_lt_two_pow (n := 32) h.1 h2.1, Nat.or_lt_two_pow (n := 32) h.2 h2.2⟩
theorem C5p {f g : List Cl} (h : ∀ c, c ∈ f → u32 c) (h2 : ∀ c, c ∈ g → u32 c) : ∀ c, c ∈ f ++ g → u32 c := fun c hc => (List.mem_append.mp hc).elim (h c) (h2 c)
theorem C7s {f g : List Cl} (h : ∀ c, c ∈ f → u32 c) (h2 : ∀ c, c ∈ g → u32 c) : ∀ c, c ∈ A9w f g → u32 c := fun c hc => by
 obtain ⟨a, ha, hc⟩ := List.mem_flatMap.mp hc
 obtain ⟨b, hb, rfl⟩ := List.mem_map.mp hc
 exact B1y (h a ha) (h2 b hb)
theorem E0t (c : Cl) : ∀ d, d ∈ E0c c → u32 d := fun d hd => by
 rcases List.mem_append.mp hd with hd | hd
 ·obtain ⟨i, _, rfl⟩ := List.mem_map.mp hd
  exact ⟨by show (0 : Nat) < _; decide, by have := A9y i; show A7i i < 4294967296; omega⟩
 ·obtain ⟨i, _, rfl⟩ := List.mem_map.mp hd
  exact ⟨by have := A9y i; show A7i i < 4294967296; omega, by show (0 : Nat) < _; decide⟩
theorem A4t (c : Cl) (i : Int) : u32 (A0j c i) := ⟨by have := A4z c.pos i; show A1e c.pos i < _; omega, by have := A4z c.neg i; show A1e c.neg i < _; omega⟩
theorem A3l {c : Cl} (h : u32 c) : A1n [c] := ⟨fun d hd => by rw [List.mem_singleton] at hd; subst hd; exact h, by unfold reach; simp⟩
theorem B2j {f g : List Cl} (h : A1n f) (h2 : A1n g) : okE (A7b f g) := B1s (C5p h.1 h2.1)
theorem B2i {f g : List Cl} (h : A1n f) (h2 : A1n g) : okE (A9m f g) := B1s (C7s h.1 h2.1)
theorem E3o (c : Cl) : okE (C4e c) := B1s (E0t c)
theorem C1k {h : List Cl} {c : Cl} (hh : A1n h) : okE (A3d h c) := A9e fun _ => B2i hh (E3o c)
theorem B7s : A1n [cl0] := A3l ⟨by decide, by decide⟩
theorem B7z (f : List Cl) : okE (B4y f) := B9x (fun h c _ hh => C1k hh) B7s
theorem D5q (f : List Cl) : okE (A4v f) := by unfold A4v; split; exact B7z f; exact A4u
theorem D8k {i : Int} {r : List Cl} {c : Cl} (hr : A1n r) : okE (A3x i r c) := by
 unfold A3x
 split
 ·exact B2i (A3l (A4t c i)) hr
 ·exact A3l (A4t c i)
theorem D8l {i : Int} {r : List Cl} {c : Cl} {g : List Cl} (hg : A1n g) : okE (A7v i r c g) := by
 unfold A7v
 split
 ·exact A9e fun _ => B2i hg (B7z r)
 ·exact hg
theorem C1j {i : Int} {r h : List Cl} {c : Cl} (hr : A1n r) (hh : A1n h) : okE (A2i i r h c) := by
 unfold A2i
 refine A9e fun _ => A9e fun _ => B2j hh ?_
 have h1 : okE (A3x i r c) := D8k hr
 exact D8l h1
theorem D3f {f r : List Cl} {i : Int} (hr : A1n r) : okE (A1a f i r) := by
 unfold A1a
 split
 ·exact A4u
 ·split
  ·exact A4u
  ·exact B9x (fun h c _ hh => C1j hr hh) A4u
theorem B7t {l : List Cl} (h : A1n l) : A1n (A5t l) := E1r h (fun c hc => (List.mem_filter.mp hc).1) (List.length_filter_le _ _)
theorem C9t {f : List Cl} (h : A1n f) : okE (ofF f) := by unfold ofF; split; exact B1s (B7t h).1; exact A4u
theorem B4c (r : List Cl) : okE (A1b r) := A9e fun _ => C9t (D5q r)
theorem B1r {f g : List Cl} (h : A1n f) (h2 : A1n g) : okE (B0w f g) := B1s fun c hc => by
 obtain ⟨a, ha, hc⟩ := List.mem_flatMap.mp hc
 obtain ⟨b, hb, rfl⟩ := List.mem_map.mp (List.mem_filter.mp hc).1
 exact B1y (h.1 a ha) (h2.1 b hb)
theorem C9v {i : Int} {r : List Cl} {c : Cl} (hr : A1n r) : okE (A2l i r c) := by
 unfold A2l
 split
 ·exact A9e fun _ => B1r (A3l (A4t c i)) (C9t hr)
 ·split
  ·exact A9e fun _ => B1r (A3l (A4t c i)) (B4c r)
  ·exact A3l (A4t c i)
theorem C9u {i : Int} {r h : List Cl} {c : Cl} (hr : A1n r) (hh : A1n h) : okE (A2d i r h c) := A9e fun _ => B2j hh (C9v hr)
theorem D3g {f r : List Cl} {i : Int} (hr : A1n r) : okE (A0v f i r) := by
 unfold A0v
 split
 ·exact A4u
 ·exact B9x (fun h c _ hh => C9u hr hh) A4u
/-! No more than 64. -/
abbrev E0e (x : EL) : Prop := x.2.length ≤ 64
theorem A4w (l : List Cl) : E0e (A0w l) := by
 rcases A7a l with ⟨_, _, h, h2⟩ | h | h
 ·show (A0w l).2.length ≤ 64; rw [h]; exact h2
 ·show (A0w l).2.length ≤ 64; rw [C4r (by omega)]; decide
 ·show (A0w l).2.length ≤ 64; rw [C4r (by omega)]; decide
theorem B6v {x : EL} {k : List Cl → EL} (h : x.1 = 0 → E0e (k x.2)) : E0e (B0u x k) := by
 by_cases h0 : x.1 = 0
 ·rw [A2k h0]; exact h h0
 ·rw [A2g h0]; show ([] : List Cl).length ≤ 64; decide
theorem D6g {g : List Cl → Cl → EL} : ∀ {l h : List Cl}, (∀ h c, c ∈ l → h.length ≤ 64 → E0e (g h c)) → h.length ≤ 64 → E0e (A3u g h l)
 | [], h, _, h2 => h2
 | c :: l, h, h1, h2 => by
  rw [A3u]
  exact B6v fun _ => D6g (fun h' d hd => h1 h' d (List.mem_cons_of_mem _ hd)) (h1 h c List.mem_cons_self h2)
theorem C1r (h : List Cl) (c : Cl) : E0e (A3d h c) := B6v fun _ => A4w _
theorem E4m (f : List Cl) : E0e (B4y f) := D6g (fun h c _ _ => C1r h c) (by decide)
theorem D3l (i : Int) (r h : List Cl) (c : Cl) : E0e (A2i i r h c) := B6v fun _ => B6v fun _ => A4w _
theorem F1q (f : List Cl) : E0e (ofF f) := by unfold ofF; split; exact A4w _; (show ([] : List Cl).length ≤ 64; decide)
theorem D8t (r : List Cl) : E0e (A1b r) := B6v fun _ => F1q _
theorem A7m {f : List Cl} (h : A0h f = true) : f.length ≤ 64 := by
 unfold A0h at h
 simp only [Bool.and_eq_true, decide_eq_true_eq] at h
 exact h.2
theorem E8a (c : Cl) : (E0c c).length ≤ 48 := by
 unfold E0c
 rw [List.length_append, List.length_map, List.length_map]
 have h1 : (A0g c.pos).length ≤ 24 := A6e _ _
 have h2 : (A0g c.neg).length ≤ 24 := A6e _ _
 omega
theorem B9z {s i : Nat} (h : i < (A0g s).length) : 0 ≤ (A0g s).getD i 0 ∧ (A0g s).getD i 0 < 24 := by
 have h1 := B0r (A0n (d := (0 : Int)) h)
 exact ⟨h1.1, by have := h1.2; exact_mod_cast this⟩
theorem D6f {s i : Nat} (h : i < (A0g s).length) : A2j ((A0g s).getD i 0) := by have := B9z h; unfold A2j; omega
theorem C9x (f g : List Cl) : (A9w f g).length = f.length * g.length := by
 unfold A9w
 induction f with
 | nil => simp
 | cons a f ih => rw [List.flatMap_cons, List.length_append, ih, List.length_map, List.length_cons, Nat.succ_mul]; omega
theorem D8q (f g : List Cl) (a : Cl) : A9w (f ++ [a]) g = A9w f g ++ g.map fun b => A4d a b := by unfold A9w; rw [List.flatMap_append]; simp
theorem A1v {ok : Nat → Prop} {l : List Cl} {a : SH} {w : World} (h : B3q ok l a w) : A1n l := ⟨h.2, h.1.2.1⟩
def E0f (i : Int) : EL := if A5e i then (0, [⟨A7i i, 0⟩]) else (2, [])
/-! ### From an own row to what is known -/
theorem St.F8a {B : A6n} {Γ : List Fact} {Ms : List Res} {w : World} {e : TypeId} {b : Nat} {l m : List Cl} {a a' : SH} (hs : St B Γ (A1t b [sl a l.length, sl a' m.length] e :: Ms) w) {hBp : Prop} (hB : hBp) (hF : CL l a ∈ Γ) (hG : CL m a' ∈ Γ) : St B (CCF [(l, a), (m, a')] (some ⟨b, 0, Option.none⟩, 2) :: Γ) Ms w := by
 have h1 := ((hs.A5c (sz := 1) (m := 2) rfl (by decide)).E6b cpE).D1p (x := (l, a)) List.mem_cons_self (List.mem_cons_of_mem _ hF)
 have h2 := h1.D1p (x := (m, a')) List.mem_cons_self (List.mem_cons_of_mem _ (List.mem_cons_of_mem _ hG))
 exact (h2.C0s (F := B8k) (E := cpE) (d := cp0) (bt := 24) (l := [(l, a), (m, a')]) (fun _ => rfl) hB List.mem_cons_self rfl rfl (by decide)).less (by simp +contextual)
theorem St.F4c {B : A6n} {Γ : List Fact} {Ms : List Res} {w : World} {b : Nat} {e : TypeId} {cs : List Value} {c : Cl} (hs : St B Γ (A1t b cs e :: Ms) w) {hBp : Prop} (hB : hBp) (hc : cs = A0r c) (hu : u32 c) : St B (CL [c] (some ⟨b, 0, Option.none⟩, 1) :: Γ) Ms w :=
 (hs.A5c (sz := 2) (m := 1) (by rw [hc]; rfl) (by decide)).A1g (l := [c]) hB (by rw [hc]; simp [A0k]) rfl (A3l hu).2 (A3l hu).1
theorem Spec.D4z {P : Program} {k : FuncId} {args : Array Value} {pre : List Fact} {e : TypeId} {r r' : EL} (he : r' = r) (h : Spec P k args pre [] (fun x : SH => .tuple #[sl x r.2.length, .int .i64 r.1]) (fun _ => []) (fun x => [A1q 2 e x r.2.length (A0k r.2)])) (hr : okE r) :
  Spec P k args pre [] (fun x : SH => .tuple #[sl x r'.2.length, .int .i64 r'.1]) (fun x => [CL r'.2 x]) (fun _ => []) := by
 subst he
 exact fun ok w hok hst => (h ok w hok hst).mono fun e w' hh => by
  obtain ⟨x, he, hs⟩ := hh
  exact ⟨x, he, hs.A1g trivial rfl rfl hr.2 hr.1⟩
theorem Spec.C6b {P : Program} {k : FuncId} {args : Array Value} {pre : List Fact} {e : TypeId} {r r' : EL} (he : r' = r) (h : Spec P k args pre [] (fun x : SH => .tuple #[sl x r.2.length, .int .i64 r.1]) (fun _ => []) (fun x => [A1q 2 e x r.2.length (A0k r.2)])) :
  Spec P k args pre [] (fun x : SH => .tuple #[sl x r'.2.length, .int .i64 r'.1]) (fun _ => []) (fun x => [A1q 2 e x r'.2.length (A0k r'.2)]) := by
 subst he
 exact h
end Go.Hy
namespace Go.Hy
/-! ### A way through a term that changes rows alone -/
structure A4y where
 form : Int → List Cl → EL
 A1z : Int → List Cl → EL
def elR (x : EL) : A2m (List Cl) := if x.1 = 0 then .ok x.2 else .bad x.1
theorem E5g {x : EL} (h : x.1 = 0) : elR x = .ok x.2 := if_pos h
theorem E5h {x : EL} (h : x.1 ≠ 0) : elR x = .bad x.1 := if_neg h
theorem B8h {x : EL} {g : List Cl} : elR x = .ok g ↔ x = (0, g) := by
 unfold elR
 split
 ·rename_i h
  constructor
  ·intro h2; injection h2 with h2; exact Prod.ext h h2
  ·rintro rfl; rfl
 ·rename_i h
  constructor
  ·intro h2; cases h2
  ·rintro rfl; exact absurd rfl h
theorem C2g {x : EL} {e : Int} : elR x = .bad e ↔ x.1 = e ∧ e ≠ 0 := by
 unfold elR
 split
 ·rename_i h
  constructor
  ·intro h2; cases h2
  ·rintro ⟨h2, h3⟩; exact absurd (h2.symm.trans h) h3
 ·rename_i h
  constructor
  ·intro h2; injection h2 with h2; exact ⟨h2, h2 ▸ h⟩
  ·rintro ⟨h2, h3⟩; rw [h2]
def A4y.row (W : A4y) (k d : Int) (r : List Cl) : EL := if k = 14 then W.A1z d r else W.form d r
def A1k (W : A4y) : Tr Int where
 own d k n _ r := (elR (W.row k d r)).bind fun g => .ok (.inr (n, g))
 A1z d f := (elR (W.A1z d f)).bind fun g => .ok (if g.length = 0 then none else some g)
 kid d b := .ok (d + b.2)
theorem B3z {W : A4y} {d : Int} {b : Int × Int} : (A1k W).kid d b = .ok (d + b.2) := rfl
theorem B5h {W : A4y} {d k n : Int} {nm : ByteArray} {r : List Cl} (h : (W.row k d r).1 = 0) : (A1k W).own d k n nm r = .ok (.inr (n, (W.row k d r).2)) := by
 show (elR _).bind _ = _; rw [E5g h]; rfl
theorem B3c {W : A4y} {d k n : Int} {nm : ByteArray} {r : List Cl} (h : (W.row k d r).1 ≠ 0) : (A1k W).own d k n nm r = .bad (W.row k d r).1 := by
 show (elR _).bind _ = _; rw [E5h h]; rfl
theorem B8x {W : A4y} {d k n : Int} {nm : ByteArray} {r : List Cl} {p : Int × List Cl} : (A1k W).own d k n nm r = .ok (.inr p) ↔ W.row k d r = (0, p.2) ∧ p.1 = n := by
 constructor
 ·intro h
  obtain ⟨g, hg, h2⟩ := A2m.A0m (x := elR (W.row k d r)) h
  injection h2 with h2; injection h2 with h2; subst h2
  exact ⟨B8h.mp hg, rfl⟩
 ·rintro ⟨h1, h2⟩
  rw [B5h (by rw [h1]), h1, ← h2]
theorem B1d {W : A4y} {d k n : Int} {nm : ByteArray} {r : List Cl} {u : T} : (A1k W).own d k n nm r ≠ .ok (.inl u) := by
 intro h
 obtain ⟨g, hg, h2⟩ := A2m.A0m (x := elR (W.row k d r)) h
 injection h2 with h2; cases h2
theorem B2v {W : A4y} {d k n e : Int} {nm : ByteArray} {r : List Cl} : (A1k W).own d k n nm r = .bad e ↔ (W.row k d r).1 = e ∧ e ≠ 0 := by
 rw [← C2g]
 show (elR _).bind _ = _ ↔ _
 cases elR (W.row k d r) with
 | ok g => constructor <;> (intro h; cases h)
 | bad e' => exact Iff.intro (fun h => by injection h with h; rw [h]) (fun h => by injection h with h; rw [h]; rfl)
theorem B4t {W : A4y} {d : Int} {f : List Cl} (h : (W.A1z d f).1 = 0) (h2 : (W.A1z d f).2.length = 0) : (A1k W).A1z d f = .ok none := by
 show (elR _).bind _ = _; rw [E5g h]; show A2m.ok (if _ then _ else _) = _; rw [if_pos h2]
theorem B4s {W : A4y} {d : Int} {f : List Cl} (h : (W.A1z d f).1 = 0) (h2 : (W.A1z d f).2.length ≠ 0) : (A1k W).A1z d f = .ok (some (W.A1z d f).2) := by
 show (elR _).bind _ = _; rw [E5g h]; show A2m.ok (if _ then _ else _) = _; rw [if_neg h2]
theorem B2e {W : A4y} {d : Int} {f : List Cl} (h : (W.A1z d f).1 ≠ 0) : (A1k W).A1z d f = .bad (W.A1z d f).1 := by
 show (elR _).bind _ = _; rw [E5h h]; rfl
theorem B1e {W : A4y} {d : Int} {f : List Cl} : (A1k W).A1z d f = .ok none ↔ W.A1z d f = (0, []) := by
 constructor
 ·intro h
  obtain ⟨g, hg, h2⟩ := A2m.A0m (x := elR (W.A1z d f)) h
  injection h2 with h2
  rw [B8h.mp hg]
  split at h2
  ·rename_i h3; rw [List.eq_nil_of_length_eq_zero h3]
  ·cases h2
 ·intro h; exact B4t (by rw [h]) (by rw [h]; rfl)
theorem A8d {W : A4y} {d : Int} {f g : List Cl} : (A1k W).A1z d f = .ok (some g) ↔ W.A1z d f = (0, g) ∧ g ≠ [] := by
 constructor
 ·intro h
  obtain ⟨g', hg, h2⟩ := A2m.A0m (x := elR (W.A1z d f)) h
  injection h2 with h2
  split at h2
  ·cases h2
  ·rename_i h3
   injection h2 with h2; subst h2
   exact ⟨B8h.mp hg, fun h => h3 (by rw [h]; rfl)⟩
 ·rintro ⟨h, h2⟩
  have h3 := B4s (W := W) (d := d) (f := f) (by rw [h]) (by rw [h]; intro h4; exact h2 (List.eq_nil_of_length_eq_zero h4))
  rw [h3, h]
theorem B1o {W : A4y} {d e : Int} {f : List Cl} : (A1k W).A1z d f = .bad e ↔ (W.A1z d f).1 = e ∧ e ≠ 0 := by
 rw [← C2g]
 show (elR _).bind _ = _ ↔ _
 cases elR (W.A1z d f) with
 | ok g => constructor <;> (intro h; cases h)
 | bad e' => exact Iff.intro (fun h => by injection h with h; rw [h]) (fun h => by injection h with h; rw [h]; rfl)
/-! Terms of a list, one by one. -/
def A7d (g : Nat → T → A2m T) : Nat → List T → A2m (List T)
 | _, [] => .ok []
 | i, t :: ts => (g i t).bind fun t' => (A7d g (i + 1) ts).bind fun ts' => .ok (t' :: ts')
section
variable {g : Nat → T → A2m T}
theorem B8i : ∀ (i : Nat) (l : List T) (t : T), A7d g i (l ++ [t]) = (A7d g i l).bind fun l' => (g (i + l.length) t).bind fun t' => .ok (l' ++ [t'])
 | i, [], t => by
  simp only [List.nil_append, A7d, A2m.bind, List.length_nil, Nat.add_zero]
 | i, a :: l, t => by
  simp only [List.cons_append, A7d, B8i (i + 1) l t, List.length_cons]
  rw [show i + 1 + l.length = i + (l.length + 1) by omega]
  cases g i a with
  | bad e => rfl
  | ok a' =>
   simp only [A2m.bind]
   cases A7d g (i + 1) l with
   | bad e => rfl
   | ok l' =>
    simp only
    cases g (i + (l.length + 1)) t with
    | bad e => rfl
    | ok c2 => rfl
theorem D1a {e : Int} : ∀ {l m : List T} {i : Nat}, A7d g i l = .bad e → A7d g i (l ++ m) = .bad e
 | [], m, i, h => by rw [A7d] at h; cases h
 | a :: l, m, i, h => by
  rw [List.cons_append, A7d]
  rw [A7d] at h
  cases h1 : g i a with
  | bad e' => rw [h1] at h; exact h
  | ok a' =>
   rw [h1] at h
   simp only [A2m.bind] at h ⊢
   cases h3 : A7d g (i + 1) l with
   | bad e' => rw [h3] at h; rw [D1a h3]; exact h
   | ok l' => rw [h3] at h; cases h
theorem D3z {l us : List T} {i : Nat} {u : T} (hi : i < l.length) (h : A7d g 0 (l.take i) = .ok us) (hu : g i (l.getD i t0) = .ok u) : A7d g 0 (l.take (i + 1)) = .ok (us ++ [u]) := by
 rw [A0i (d := t0) hi, B8i, h]
 simp only [A2m.bind, List.length_take, Nat.zero_add, Nat.min_eq_left (Nat.le_of_lt hi)]
 rw [hu]
theorem D1b {l us : List T} {i : Nat} {e : Int} (hi : i < l.length) (h : A7d g 0 (l.take i) = .ok us) (hu : g i (l.getD i t0) = .bad e) : A7d g 0 l = .bad e := by
 have h1 : A7d g 0 (l.take (i + 1)) = .bad e := by
  rw [A0i (d := t0) hi, B8i, h]
  simp only [A2m.bind, List.length_take, Nat.zero_add, Nat.min_eq_left (Nat.le_of_lt hi)]
  rw [hu]
 have h2 := D1a (m := l.drop (i + 1)) h1
 rwa [List.take_append_drop] at h2
theorem D0z : ∀ {l us : List T} {i : Nat}, A7d g i l = .ok us → us.length = l.length
 | [], us, i, h => by rw [A7d] at h; injection h with h; subst h; rfl
 | a :: l, us, i, h => by
  rw [A7d] at h
  obtain ⟨a', _, h⟩ := A2m.A0m h
  obtain ⟨l', h2, h⟩ := A2m.A0m h
  injection h with h; subst h
  simp [D0z h2]
theorem D0y {e : Int} : ∀ {l : List T} {i : Nat}, A7d g i l = .bad e → ∃ j t, t ∈ l ∧ g j t = .bad e
 | [], i, h => by rw [A7d] at h; cases h
 | a :: l, i, h => by
  rw [A7d] at h
  cases h1 : g i a with
  | bad e' => rw [h1] at h; injection h with h; subst h; exact ⟨i, a, List.mem_cons_self, h1⟩
  | ok a' =>
   rw [h1] at h
   simp only [A2m.bind] at h
   cases h3 : A7d g (i + 1) l with
   | bad e' => rw [h3] at h; injection h with h; subst h; obtain ⟨j, t, ht, hj⟩ := D0y h3; exact ⟨j, t, List.mem_cons_of_mem _ ht, hj⟩
   | ok l' => rw [h3] at h; cases h
end
theorem C0h {W : A4y} {k d : Int} : ∀ {i : Nat} {ts : List T}, A6t (A1k W) k i ts d = A7d (fun j t => A7h (A1k W) t (d + (binds k j).2)) i ts
 | i, [] => by rw [A6s, A7d]
 | i, t :: ts => by rw [A4k, A7d, B3z, C0h (i := i + 1) (ts := ts)]; rfl
theorem C0g {W : A4y} {k d : Int} : ∀ {i : Nat} {ts : List T}, A5h (A1k W) k ts d = A7d (fun _ t => A7h (A1k W) t (d + more k)) i ts
 | i, [] => by rw [A6r, A7d]
 | i, t :: ts => by rw [A4j, A7d, B3z, C0g (i := i + 1) (ts := ts)]; rfl
theorem B6h {C : Type} {A : Tr C} {k : Int} {c : C} {ss : List Br} {s : Nat} {bs : List Br} (hs : s < ss.length) (hb : A6v A k (ss.take s) c = .ok bs) (hf : A.A1z c (ss.getD s br0).A1z = .ok none) : A6v A k (ss.take (s + 1)) c = .ok bs := by
 rw [A0i (d := br0) hs, B3u, hb]
 simp only [A2m.bind]
 rw [hf]
theorem C5s {C : Type} {A : Tr C} {t : T} {c : C} {e : Int} {p : Int × List Cl} (h : A.own c t.kind t.n t.name t.r = .ok (.inr p)) (hl : A6t A t.kind 0 t.kids c = .bad e) : A7h A t c = .bad e := by
 rw [A9s, h]; simp only [A2m.bind]; rw [hl]
def B7d (r : A2m (List T)) : Int × List T := match r with
 | .ok u => (0, u)
 | .bad e => (e, [])
theorem E5x {r : A2m T} (h : (B7e r).1 ≠ 0) : r = .bad (B7e r).1 := by
 cases r with
 | ok u => exact absurd rfl h
 | bad e => rfl
theorem F0c {r : A2m T} (hb : ∀ e, r = .bad e → e ≠ 0) (h : (B7e r).1 = 0) : r = .ok (B7e r).2 := by
 cases r with
 | ok u => rfl
 | bad e => exact absurd h (hb e rfl)
theorem C5h {r : A2m (List T)} (h : (B7d r).1 ≠ 0) : r = .bad (B7d r).1 := by
 cases r with
 | ok u => exact absurd rfl h
 | bad e => rfl
theorem D1l {r : A2m (List T)} (hb : ∀ e, r = .bad e → e ≠ 0) (h : (B7d r).1 = 0) : r = .ok (B7d r).2 := by
 cases r with
 | ok u => rfl
 | bad e => exact absurd h (hb e rfl)
theorem B5i {W : A4y} : ∀ (t : T) {d e : Int}, A7h (A1k W) t d = .bad e → e ≠ 0 := T.ind fun t ih d e h => by
 rcases D4p h with h1 | ⟨b, _, h1⟩ | ⟨p, hp, h1 | ⟨c', _, h2⟩⟩
 ·exact (B2v.mp h1).2
 ·exact (B1o.mp h1).2
 ·cases h1
 ·exact ih p hp h2
theorem B9k {W : A4y} {b : Nat → Int} {l : List T} {i : Nat} {e d : Int} (h : A7d (fun j t => A7h (A1k W) t (d + b j)) i l = .bad e) : e ≠ 0 := by
 obtain ⟨j, t, _, h1⟩ := D0y h
 exact B5i t h1
abbrev A3c (W : A4y) (t : T) (d : Int) : Int × T := B7e (A7h (A1k W) t d)
abbrev C7q (W : A4y) (b : Nat → Int) (l : List T) (d : Int) : Int × List T := B7d (A7d (fun j t => A7h (A1k W) t (d + b j)) 0 l)
/-! Rows with a formula in a dimension's place; rows without a dimension. -/
def A2y (P : List Cl → Int → List Cl → EL) (i : Int) (r : List Cl) (d : Int) (f : List Cl) : EL := if A3e (A4e f) (i + d) = false then (0, f) else B0u (A0t r 0 d) fun s => P f (i + d) s
def B2w (i : Int) (r : List Cl) : A4y := ⟨A2y A1a i r, A2y A0v i r⟩
def B3o (i : Int) (d : Int) (f : List Cl) : EL := A0w (f.map fun c => ⟨A9a c.pos (i + d), A9a c.neg (i + d)⟩)
def C3b (i : Int) : A4y := ⟨B3o i, B3o i⟩
theorem D4o {f : List Cl} {j : Int} {c : Cl} (hc : c ∈ f.map fun c => (⟨A9a c.pos j, A9a c.neg j⟩ : Cl)) : u32 c := by
 obtain ⟨e, _, rfl⟩ := List.mem_map.mp hc
 exact ⟨by have := B4l e.pos j; show A9a _ _ < _; omega, by have := B4l e.neg j; show A9a _ _ < _; omega⟩
theorem C8m {t k : T} (h : k ∈ t.kids) : size k < size t := by obtain ⟨p, hp, e⟩ := A5p h; exact e ▸ B1c hp
theorem C8k {t k : T} {b : Br} (h : b ∈ t.sys) (h2 : k ∈ b.kids) : size k < size t := by obtain ⟨p, hp, e⟩ := A5m h h2; exact e ▸ B1c hp
/-! What a call tells, under another name. -/
theorem Spec.F5y {P : Program} {k : FuncId} {args : Array Value} {pre : List Fact} {Ms0 : List Res} {y : Tys} {r r' : Int × T} (he : r' = r) (h : Spec P k args pre Ms0 (fun x : {h : HT // h.er = r.2} => .tuple #[.agg (tc r.2 x.1.vr x.1.vk x.1.vs).toArray, .int .i64 r.1]) (fun _ => []) (fun x => [A6h (A7y y x.1)])) :
  Spec P k args pre Ms0 (fun x : {h : HT // h.er = r'.2} => .tuple #[.agg (tc r'.2 x.1.vr x.1.vk x.1.vs).toArray, .int .i64 r'.1]) (fun _ => []) (fun x => [A6h (A7y y x.1)]) := by
 subst he
 exact h
theorem Spec.F8c {P : Program} {k : FuncId} {args : Array Value} {pre : List Fact} {Ms0 : List Res} {y : Tys} {e : TypeId} {r r' : Int × List T} (he : r' = r) (h : Spec P k args pre Ms0 (fun x : {p : List HT × SH // p.1.map HT.er = r.2} => .tuple #[sl x.1.2 r.2.length, .int .i64 r.1]) (fun _ => []) (fun x => [A1q 6 e x.1.2 r.2.length (A2t (x.1.1.map HT.tp)), A6h (A5o y x.1.1)])) :
  Spec P k args pre Ms0 (fun x : {p : List HT × SH // p.1.map HT.er = r'.2} => .tuple #[sl x.1.2 r'.2.length, .int .i64 r'.1]) (fun _ => []) (fun x => [A1q 6 e x.1.2 r'.2.length (A2t (x.1.1.map HT.tp)), A6h (A5o y x.1.1)]) := by
 subst he
 exact h
end Go.Hy
namespace Go.Hy
/-! ### dims: what the program makes of a term -/
section
variable {W : A4y}
mutual
theorem B6c : ∀ {t u : T} {d : Int}, A7h (A1k W) t d = .ok u → size u ≤ size t
 | .mk k n nm r ks ss, u, d, hu => by
  rw [A9s] at hu
  simp only [T.kind, T.n, T.name, T.r, T.kids, T.sys] at hu
  obtain ⟨o, h9, hu⟩ := A2m.A0m hu
  cases o with
  | inl v => exact absurd h9 B1d
  | inr p =>
   obtain ⟨ks', h10, hu⟩ := A2m.A0m hu
   obtain ⟨ss', h11, hu⟩ := A2m.A0m hu
   injection hu with hu
   subst hu
   rw [C3n, C3n]
   simp only [T.kids, T.sys]
   have h1 := C3g h10
   have h2 := B7j h11
   omega
theorem C3g {k : Int} : ∀ {ts us : List T} {i : Nat} {d : Int}, A6t (A1k W) k i ts d = .ok us → B7o us ≤ B7o ts
 | [], us, i, d, hu => by rw [A6s] at hu; injection hu with hu; subst hu; exact Nat.le_refl _
 | t :: ts, us, i, d, hu => by
  rw [A4k] at hu
  obtain ⟨c', _, hu⟩ := A2m.A0m hu
  obtain ⟨t', h2, hu⟩ := A2m.A0m hu
  obtain ⟨ts', h3, hu⟩ := A2m.A0m hu
  injection hu with hu
  subst hu
  have h4 := B6c h2
  have h5 := C3g h3
  simp only [B7o]
  omega
theorem C3f {k : Int} : ∀ {ts us : List T} {d : Int}, A5h (A1k W) k ts d = .ok us → B7o us ≤ B7o ts
 | [], us, d, hu => by rw [A6r] at hu; injection hu with hu; subst hu; exact Nat.le_refl _
 | t :: ts, us, d, hu => by
  rw [A4j] at hu
  obtain ⟨c', _, hu⟩ := A2m.A0m hu
  obtain ⟨t', h2, hu⟩ := A2m.A0m hu
  obtain ⟨ts', h3, hu⟩ := A2m.A0m hu
  injection hu with hu
  subst hu
  have h4 := B6c h2
  have h5 := C3f h3
  simp only [B7o]
  omega
theorem B7j {k : Int} : ∀ {bs us : List Br} {d : Int}, A6v (A1k W) k bs d = .ok us → C8o us ≤ C8o bs
 | [], us, d, hu => by rw [A6u] at hu; injection hu with hu; subst hu; exact Nat.le_refl _
 | .mk f ks :: bs, us, d, hu => by
  rw [A4s] at hu
  simp only [Br.A1z, Br.kids] at hu
  obtain ⟨o, h5, hu⟩ := A2m.A0m hu
  cases o with
  | none => have h6 := B7j hu; simp only [C8o]; omega
  | some g =>
   obtain ⟨ks', h7, hu⟩ := A2m.A0m hu
   obtain ⟨bs', h8, hu⟩ := A2m.A0m hu
   injection hu with hu
   subst hu
   have h1 := C3f h7
   have h2 := B7j h8
   simp only [C8o, Br.kids]
   omega
end
theorem E6o (hW : ∀ d f, A1n f → okE (W.form d f) ∧ okE (W.A1z d f)) {t u : T} {d : Int} (h : okT t) (hu : A7h (A1k W) t d = .ok u) : okT u := by
 refine C5r (A := A1k W) ?_ ?_ ?_ t d u h hu
 ·intro c k n nm r p _ hn hr ho
  obtain ⟨h1, h2⟩ := B8x.mp ho
  have h3 := hW c r hr
  have h4 : okE (W.row k c r) := by unfold A4y.row; split; exact h3.2; exact h3.1
  unfold okE at h4
  rw [h1] at h4
  exact ⟨by rw [h2]; exact hn, h4⟩
 ·intro c k n nm r u ho
  exact absurd ho B1d
 ·intro c f f' hr ho
  obtain ⟨h1, _⟩ := A8d.mp ho
  have h3 := (hW c f hr).2
  unfold okE at h3
  rw [h1] at h3
  exact h3
theorem F2o : size t0 = 1 := by decide
theorem C5g {t : T} {d : Int} : size (A3c W t d).2 ≤ size t := by
 unfold A3c
 cases h : A7h (A1k W) t d with
 | ok u => exact B6c h
 | bad e => show size t0 ≤ size t; rw [F2o]; exact size_pos' t
theorem B1w (hW : ∀ d f, A1n f → okE (W.form d f) ∧ okE (W.A1z d f)) {t : T} {d : Int} (h : okT t) : okT (A3c W t d).2 := by
 unfold A3c
 cases hu : A7h (A1k W) t d with
 | ok u => exact E6o hW h hu
 | bad e => exact B9c
end
theorem C4f {P : List Cl → Int → List Cl → EL} (hP : ∀ f i r, A1n f → A1n r → okE (P f i r)) {i d : Int} {r f : List Cl} (hf : A1n f) : okE (A2y P i r d f) := by
 unfold A2y
 split
 ·exact hf
 ·exact A9e fun _ => hP _ _ _ hf (B2r r 0 d)
theorem C1i (i : Int) (r : List Cl) : ∀ d f, A1n f → okE ((B2w i r).form d f) ∧ okE ((B2w i r).A1z d f) := fun d f hf =>
 ⟨C4f (fun f i r _ hr => D3f hr) hf, C4f (fun f i r _ hr => D3g hr) hf⟩
theorem D5r {i d : Int} {f : List Cl} (hf : A1n f) : okE (B3o i d f) := B1s fun c hc => D4o hc
theorem E8d (i : Int) : ∀ d f, A1n f → okE ((C3b i).form d f) ∧ okE ((C3b i).A1z d f) := fun d f hf => ⟨D5r hf, D5r hf⟩
def C0n (x : Int × T) (k : T → Int × T) : Int × T := if x.1 ≠ 0 then (x.1, t0) else k x.2
theorem A7z {x : Int × T} {k : T → Int × T} (h : x.1 ≠ 0) : C0n x k = (x.1, t0) := if_pos h
theorem A9c {x : Int × T} {k : T → Int × T} (h : x.1 = 0) : C0n x k = k x.2 := if_neg (by simp [h])
def B0h {α : Type} (g : α → T → Int × T) : List α → T → Int × T
 | [], t => (0, t)
 | a :: l, t => C0n (g a t) fun u => B0h g l u
section
variable {α : Type} {g : α → T → Int × T}
theorem C6t : ∀ {l m : List α} {t u : T}, B0h g l t = (0, u) → B0h g (l ++ m) t = B0h g m u
 | [], m, t, u, e => by
  rw [B0h, Prod.mk.injEq] at e
  rw [List.nil_append, e.2]
 | a :: l, m, t, u, e => by
  rw [B0h] at e
  by_cases h0 : (g a t).1 = 0
  ·rw [A9c h0] at e
   rw [List.cons_append, B0h, A9c h0]
   exact C6t e
  ·rw [A7z h0, Prod.mk.injEq] at e
   exact absurd e.1 h0
theorem D6m {l : List α} {d : α} {t u : T} {i : Nat} (hi : i < l.length) (e : B0h g (l.take i) t = (0, u)) (h0 : (g (l.getD i d) u).1 = 0) : B0h g (l.take (i + 1)) t = (0, (g (l.getD i d) u).2) := by
 rw [A0i (d := d) hi, C6t e, B0h, A9c h0, B0h]
theorem D0i {l : List α} {d : α} {t u : T} {i : Nat} (hi : i < l.length) (e : B0h g (l.take i) t = (0, u)) (h0 : (g (l.getD i d) u).1 ≠ 0) : B0h g l t = ((g (l.getD i d) u).1, t0) := by
 have e2 : l = l.take i ++ l.getD i d :: l.drop (i + 1) := by rw [A5g (d := d) hi, List.getElem_cons_drop, List.take_append_drop]
 rw [e2, C6t e, ← e2, B0h, A7z h0]
theorem D0j {l : List α} {t u : T} {i : Nat} (hi : i = l.length) (e : B0h g (l.take i) t = (0, u)) : B0h g l t = (0, u) := by
 rw [hi, List.take_length] at e
 exact e
theorem C0b : ∀ {l : List α} {t : T}, (B0h g l t).1 ≠ 0 → (B0h g l t).2 = t0
 | [], t, h => absurd rfl h
 | a :: l, t, h => by
  rw [B0h] at h ⊢
  by_cases h1 : (g a t).1 = 0
  ·rw [A9c h1] at h ⊢; exact C0b h
  ·rw [A7z h1]
theorem C4w {p : T → Prop} (h0 : p t0) (hg : ∀ a u, p u → p (g a u).2) : ∀ {l : List α} {t : T}, p t → p (B0h g l t).2
 | [], t, h => h
 | a :: l, t, h => by
  rw [B0h]
  by_cases h1 : (g a t).1 = 0
  ·rw [A9c h1]; exact C4w h0 hg (hg a t h)
  ·rw [A7z h1]; exact h0
end
def A2w (t : T) (i : Int) (r : List Cl) : Int := if A2p t ≠ 0 then A2p t else if (A5e i && A0h r) = false then 2 else 0
def A5r (t : T) (i : Int) (r : List Cl) : Int × T := if A2w t i r ≠ 0 then (A2w t i r, t0) else A3c (B2w i r) t 0
def A2q (t : T) (i : Int) (r : List Cl) : Int × T := if A2w t i r ≠ 0 then (A2w t i r, t0) else if (A0t r i 1).1 ≠ 0 then ((A0t r i 1).1, t0) else C0n (A3c (B2w i (A0t r i 1).2) t 0) fun x => A3c (C3b i) x 0
theorem C3e {t : T} {i : Int} {r : List Cl} (h : A2w t i r = 0) : A2p t = 0 ∧ (0 ≤ i ∧ i < 24) ∧ A0h r = true := by
 unfold A2w at h
 split at h
 ·rename_i h1; exact absurd h h1
 ·rename_i h1
  split at h
  ·cases h
  ·rename_i h2
   simp only [Bool.not_eq_false, Bool.and_eq_true] at h2
   refine ⟨Decidable.not_not.mp h1, ?_, h2.2⟩
   have h3 := h2.1
   unfold A5e at h3
   simpa using h3
def A6q (r : List Cl) (l : List Int) (t : T) : Int × T := B0h (fun i u => A3c (B2w i r) u 0) l t
abbrev EP : Type := Nat × List Cl × SH
def B3n (p : EP) : List Value := [.int .u32 (p.1 : Int), sl p.2.2 p.2.1.length]
abbrev epE (p : EP) : Fact := CL p.2.1 p.2.2
def ep0 : EP := (0, [], none, 0)
abbrev ENF (l : List EP) (a : SH) : Fact := E6l 2 32 B3n epE ep0 l a
def F4u (l : List EP) (t : T) : Int × T := B0h (fun (p : EP) u => A6q p.2.1 (A0g p.1) u) l t
def A0y (t : T) (c : Cl) : Int × T := if A2p t ≠ 0 then (A2p t, t0) else if single c = false then (2, t0) else C0n (A6q [cl0] (A0g c.pos) t) fun u => A6q [] (A0g c.neg) u
theorem D0v {c : Cl} {a : SH} {t : T} : F4u [(c.pos, [cl0], a), (c.neg, [], none, 0)] t = C0n (A6q [cl0] (A0g c.pos) t) fun u => A6q [] (A0g c.neg) u := by
 unfold F4u
 simp only [B0h]
 congr 1
 funext u
 by_cases h : (A6q [] (A0g c.neg) u).1 = 0
 ·rw [A9c h]; exact Prod.ext h.symm rfl
 ·rw [A7z h]
  unfold A6q at h ⊢
  refine Prod.ext rfl ?_
  show t0 = _
  exact (C0b h).symm
theorem C9h {r : List Cl} {l : List Int} {t : T} (h : okT t) : okT (A6q r l t).2 := C4w B9c (fun i u hu => B1w (C1i i r) hu) h
section
variable {P : Program} [Tab P] {f : FuncId} {R : Ending → World → Prop} {B : A6n} {n : Fz} {K : List Item} {ops : Array Oper} {l : List Nat} {σ : Nat → Value} {Γ : List Fact} {Ms : List Res} {dst : Option Tmp} {ty : TypeId} {x : Operand}
theorem F7p {t : TypeId} {l' : List (Nat × Nat)} {bt bk o i' : Nat} {a : SH} {zv : Value} {ls : List EP} (k_ : RgT P f R B n K ops l (A1u σ dst (.agg (B3n (ls.getD i' ep0)).toArray)) Γ Ms) (hF : ENF ls a ∈ Γ := by repeat (first | exact List.mem_cons_self | apply List.mem_cons_of_mem))
  (hx : ev σ x = .pointer (some ⟨bk, o + i' * 2, none⟩) := by exact wn_) (ha : a.1 = some ⟨bk, o, none⟩ := by assumption) (hu : Tab.lay P t = some l' := by rfl) (hi : Tab.inf P t = some (2, bt, zv) := by rfl) (hlt : i' < ls.length := by first | omega | (simp; omega)) (hd : A0s n dst = true := by rfl) : OpT P f R B n K ops l (opr dst (.load t x) ty) σ Γ Ms :=
 A8b (F4e (F := B3n) (fun _ => rfl) hx hF ha hu hi hlt) hd k_
end
/-! From what holds to what is asked. -/
theorem Spec.E9w {P : Program} {k : FuncId} {args : Array Value} {pre L : List Fact} {G : Fact} {Ms0 : List Res} {X : Type} {val : X → Value} {N : X → List Fact} {Ms1 : X → List Res} (hp : ∀ F, F ∈ pre → F ∈ G :: L) (h : Spec P k args pre Ms0 val N Ms1) : Spec P k args [B5x L, G] Ms0 val N Ms1 := fun ok w hok hs =>
 h ok w hok ⟨hs.chg, fun F hF => by
  rcases List.mem_cons.mp (hp F hF) with e | e
  ·subst e; exact hs.facts _ (List.mem_cons_of_mem _ List.mem_cons_self)
  ·exact hs.facts (B5x L) List.mem_cons_self F e, hs.res, hs.lt, hs.disj⟩
theorem Spec.E0s {P : Program} {k : FuncId} {args : Array Value} {pre L : List Fact} {G : Fact} {Ms0 : List Res} {X : Type} {val : X → Value} {N : X → List Fact} {Ms1 : X → List Res} (hL : ∀ F, F ∈ L → F ∈ pre) (hG : G ∈ pre) (h : Spec P k args [B5x L, G] Ms0 val N Ms1) : Spec P k args pre Ms0 val N Ms1 := fun ok w hok hs =>
 h ok w hok ⟨hs.chg, fun F hF => by
  rcases List.mem_cons.mp hF with e | e
  ·subst e; exact fun F' hF' => hs.facts F' (hL F' hF')
  ·rw [List.mem_singleton] at e; subst e; exact hs.facts _ hG, hs.res, hs.lt, hs.disj⟩
theorem St.G2f {B : A6n} {Γ : List Fact} {Ms : List Res} {w : World} {e : TypeId} {b : Nat} {p q : EP} (hs : St B Γ (A1t b (B3n p ++ B3n q) e :: Ms) w) {hBp : Prop} (hB : hBp) (hF : epE p ∈ Γ) (hG : epE q ∈ Γ) : St B (ENF [p, q] (some ⟨b, 0, Option.none⟩, 2) :: Γ) Ms w := by
 have h1 := ((hs.A5c (sz := 2) (m := 2) rfl (by decide)).E6b epE).D1p (x := p) List.mem_cons_self (List.mem_cons_of_mem _ hF)
 have h2 := h1.D1p (x := q) List.mem_cons_self (List.mem_cons_of_mem _ (List.mem_cons_of_mem _ hG))
 exact (h2.C0s (F := B3n) (E := epE) (d := ep0) (bt := 32) (l := [p, q]) (fun _ => rfl) hB List.mem_cons_self (by simp) rfl (by decide)).less (by simp +contextual)
end Go.Hy
namespace Go.Hy
open Go Go.ChangeShapes Go.WideShapes Go.RowKit Go.Shelf Go.Proofs
/-! ### A law whose row lists a package-level table -/
theorem C1v {C : Checked} {os : Os} {f : FuncId} {fn : Func} {s : ChangeSpec} {conds : List PathCond} {ts : List TypeId} {tb : TypeId} {H : Type} {enc : TypeId × Value → H} {L : List (String × DataW Unit)}
  (own : ownKnob C.prog.godebug = none) (started : os.Started) (noInit : C.prog.inits.idxOf? f = none) (hfn : C.prog.funcs[f]? = some fn)
  (witness : ∃ (w : World) (tape : Tape) (i : Input), w.os = os ∧ (w.forCall tape i).Shaped C.prog ∧ i.vars = [] ∧ Input.okWide C.prog (w.forCall tape i) .any w.heap.size f i ∧
   ((s.pre enc C.prog fn conds false (w.forCall tape i).memory i.args ∧ laidMetH C.prog L (w.forCall tape i).memory) ∧ sizedMet enc C.prog fn (OpenSpec.ofChange s) false (w.forCall tape i).memory i.args) ∧ Assume.holds {} C.prog (lone (Frame.enter C.prog f i.args .normal) [] (w.forCall tape i)))
  (laid : laidOutB C.prog = true) (hps : fn.params.toList = ts) (hread : ts.all (fun t => C.prog.readableRec t && decide (t < C.prog.types.size)) = true) (hres : fn.resultTypes = #[tb]) (hbool : C.prog.underlying tb = some .bool) (hvars : s.vars = [])
  (hsays : ∀ ds : List (DataW H), ds.length = ts.length → s.fn H ds = { results := [.lit (.bool true)], args := ds })
  (hcall : ∀ (W : World) (base : Nat) (args : Array Value) (ds : List (DataW H)) (p : List MemPlace), (∀ (j : Nat) t v, ts[j]? = some t → args[j]? = some v → Value.okWide C.prog W .any base t v) →
   DataW.TrodAll enc C.prog W 0 (fun _ => true) true ts args.toList ds p → (∀ x, x ∈ DataW.weightsEach C.prog ts ds → x ≤ reach) → laidMetH C.prog L W →
   Calls C.prog f args W fun e W' => e = .returned (.bool true) ∧ Below W.heap.size W W') :
  ReturnsInHanded {} C os f .any (fun w args => (s.pre enc C.prog fn conds false w args ∧ laidMetH C.prog L w) ∧ sizedMet enc C.prog fn (OpenSpec.ofChange s) false w args) (s.post enc C.prog fn false true false false) := by
 refine returnsInHanded_of_change_and (X := fun w _ => laidMetH C.prog L w) (fun _ _ _ hh h => h.of_heap hh) own started noInit hfn witness ?_
 intro W base args ds gs before hval hW hcnd hwt hL _
 have hW' := hW
 obtain ⟨p, q, hA, hV, rfl, hfz, hnd⟩ := hW
 rw [hvars] at hV
 obtain ⟨rfl, rfl⟩ := trodVars_none hV
 rw [hps] at hA hwt
 have hlen : ∀ {ts : List TypeId} {vs : List Value} {ds : List (DataW H)} {ps : List MemPlace}, DataW.TrodAll enc C.prog W 0 (fun _ => true) true ts vs ds ps → ds.length = ts.length := by
  intro ts
  induction ts with
  | nil => intro vs ds ps h; obtain ⟨_, rfl, _⟩ := trodAll_nil h; rfl
  | cons t ts ih =>
   intro vs ds ps h
   obtain ⟨v, vs1, d, ds1, a, b, rfl, rfl, rfl, _, h2⟩ := trodAll_cons h
   simp [ih h2]
 have hvt : s.plain.varTypes C.prog = [] := by
  have : s.plain.vars = [] := hvars
  unfold DataSpec.varTypes; rw [this]; rfl
 have hw2 : ∀ x, x ∈ DataW.weightsEach C.prog ts ds → x ≤ reach := by
  intro x hx
  rw [List.append_nil, hvt, List.append_nil] at hwt
  have := List.all_eq_true.mp hwt x hx
  exact of_decide_eq_true this
 refine (hcall W base args ds p (fun j t v ht hv => hval j t v (by rw [← Array.getElem?_toList, hps]; exact ht) hv) hA hw2 hL).mono ?_
 intro e W' ⟨he, hb⟩
 have hlt : ∀ x ∈ p, x.block < W.heap.size := fun x hx => hW'.lt x (by simpa using hx)
 refine ⟨.bool true, he, ds, [], p ++ [], [], p, [], hW', ?_, ?_, ?_, hb.frame _, fun h => by cases h⟩
 ·rw [List.append_nil, hsays ds (hlen hA), hres]
  exact ⟨[], [], ⟨1, by simp [DataW.trod, Value.cells, hbool]⟩, rfl, rfl⟩
 ·rw [List.append_nil, hsays ds (hlen hA), hps]
  refine B6e laid hb (fun t ht => ?_) hA hlt
  have := List.all_eq_true.mp hread t ht
  simpa using this
 ·rw [List.append_nil, hsays ds (hlen hA), hvars]
  rfl
/-- What the row's condition gives the walks: the table's cells. -/
theorem E6v {P : Program} {W : World} {nm : String} {t e : TypeId} {tab : List Nat} (hg : P.globalNamed nm = some 0) (ht : (P.globals[0]?).map (·.type) = some t) (hu : P.underlying t = some (.array tab.length e)) (he : P.underlying e = some (.int .u8)) (hc : P.cellsOf e = 1) (hc2 : P.cellsOf t = tab.length) (hpos : 0 < tab.length)
  (hp : ([(nm, (DataW.agg (tab.map fun (v : Nat) => .lit (.int .u8 (v : Int))) : DataW Unit))].all fun x => x.2.handleName?.isNone) = true) (h : laidMetH P [(nm, .agg (tab.map fun (v : Nat) => .lit (.int .u8 (v : Int))))] W) : TabAt 0 tab W ∧ 0 < W.heap.size := by
 rw [MakeChecks.laidMetH_plain _ _ _ hp] at h
 obtain ⟨ps, ⟨g0, t0, cs0, f0, p0, q0, hg0, ht0, hv0, hd0, _⟩, _⟩ := h
 obtain rfl := Option.some.inj (hg.symm.trans hg0)
 obtain rfl := Option.some.inj (ht.symm.trans ht0)
 obtain ⟨xs, m1, rfl, hx1, hlen, hn3, hel⟩ := DataW.trod_array hu hd0
 simp only [Prod.mk.injEq, DataW.agg.injEq] at hx1
 have hcell : ∀ j, j < tab.length → W.cell? ⟨0, j, none⟩ = some (.int .u8 (tab.getD j 0)) := by
  intro j hj
  have h1 := hel j hj
  rw [hc, Nat.mul_one, List.getElem?_eq_getElem (by omega)] at h1
  obtain ⟨n, e1, e2, _⟩ := DataW.trod_int he h1
  have h2 := World.var?_cell hg0 hv0 j
  have h3 : cs0[j]? = some (.int .u8 n) := by
   have h4 := congrArg (fun l => l[0]?) e1
   simp only [List.getElem?_take, List.getElem?_drop, List.getElem?_cons_zero] at h4
   simpa using h4
  rw [h2, h3]
  have h5 : (tab.map fun (v : Nat) => (DataW.lit (.int .u8 (v : Int)) : DataW Unit))[j]? = (xs.map (·.1))[j]? := by rw [hx1.1]
  rw [List.getElem?_map, List.getElem?_map, List.getElem?_eq_getElem hj, List.getElem?_eq_getElem (show j < xs.length by omega)] at h5
  simp only [Option.map_some, Option.some.injEq] at h5
  rw [e2] at h5
  simp only [DataW.lit.injEq, Lit.int.injEq, true_and] at h5
  rw [List.getD_eq_getElem?_getD, List.getElem?_eq_getElem hj]
  simp [← h5]
 refine ⟨hcell, ?_⟩
 have h6 := hcell 0 hpos
 refine Nat.lt_of_not_le fun hz => ?_
 unfold World.cell? at h6
 rw [Array.getElem?_eq_none (show W.heap.size ≤ 0 from hz)] at h6
 simp at h6
theorem E6w {W : World} {tab : List Nat} (h : TabAt 0 tab W ∧ 0 < W.heap.size) : (At 0 0 (tab.map fun (v : Nat) => Value.int .u8 (v : Int))).f (okw W) W := by
 refine ⟨h.2, fun j v hj => ?_⟩
 rw [List.getElem?_map] at hj
 cases hq : tab[j]? with
 | none => rw [hq] at hj; cases hj
 | some k =>
  rw [hq] at hj
  injection hj with hj
  subst hj
  have hlt : j < tab.length := by
   refine Nat.lt_of_not_le fun hn => ?_
   rw [List.getElem?_eq_none hn] at hq
   cases hq
  have h1 := h.1 j hlt
  rw [List.getD_eq_getElem?_getD, hq] at h1
  rw [Nat.zero_add]
  exact h1
end Go.Hy
namespace Go.Hy
/-! ### What a row says in a world: dimensions that are so, and dimensions whose opposites are so -/
abbrev Wd : Type := Nat → Prop
def B3x (c : Cl) (P N : Wd) : Prop := (∀ i, c.pos.testBit i = true → P i) ∧ ∀ i, c.neg.testBit i = true → N i
def sat (l : List Cl) (P N : Wd) : Prop := ∃ c, c ∈ l ∧ B3x c P N
def B1k (s : Nat) : Wd := fun i => s.testBit i = true
def C7f (P N : Wd) : Prop := ∀ i, ¬ (P i ∧ N i)
theorem F1l {a b : Nat} : a ||| b = a ↔ ∀ i, b.testBit i = true → a.testBit i = true := by
 constructor
 ·intro h i hi
  rw [← h, Nat.testBit_or, hi, Bool.or_true]
 ·intro h
  refine Nat.eq_of_testBit_eq fun i => ?_
  rw [Nat.testBit_or]
  cases hb : b.testBit i with
  | false => simp
  | true => rw [h i hb]; rfl
theorem A9r {a b : Cl} : below a b = true ↔ B3x b (B1k a.pos) (B1k a.neg) := by
 unfold below B3x B1k
 rw [Bool.and_eq_true, decide_eq_true_eq, decide_eq_true_eq, F1l, F1l]
theorem C0w (c : Cl) : B3x c (B1k c.pos) (B1k c.neg) := ⟨fun i h => h, fun i h => h⟩
theorem B8u {a b : Cl} {P N : Wd} (h : below a b = true) (hs : B3x a P N) : B3x b P N := by
 have h1 := A9r.mp h
 exact ⟨fun i hi => hs.1 i (h1.1 i hi), fun i hi => hs.2 i (h1.2 i hi)⟩
theorem D9t (c : Cl) : below c c = true := A9r.mpr (C0w c)
theorem C2p {a b c : Cl} (h : below a b = true) (h2 : below b c = true) : below a c = true := A9r.mpr (B8u h2 (A9r.mp h))
theorem D9v {a b : Cl} (h : below a b = true) (h2 : below b a = true) : a = b := by
 have h1 := A9r.mp h
 have h3 := A9r.mp h2
 unfold B3x B1k at h1 h3
 have e1 : a.pos = b.pos := Nat.eq_of_testBit_eq fun i => by
  cases ha : a.pos.testBit i with
  | true => exact (h3.1 i ha).symm
  | false => cases hb : b.pos.testBit i with
   | false => rfl
   | true => rw [h1.1 i hb] at ha; cases ha
 have e2 : a.neg = b.neg := Nat.eq_of_testBit_eq fun i => by
  cases ha : a.neg.testBit i with
  | true => exact (h3.2 i ha).symm
  | false => cases hb : b.neg.testBit i with
   | false => rfl
   | true => rw [h1.2 i hb] at ha; cases ha
 cases a; cases b; simp_all
theorem C6m {l : List Cl} {c : Cl} (h : A1w l c = true) : ∃ d, d ∈ l ∧ c ≠ d ∧ below c d = true := by
 unfold A1w at h
 obtain ⟨d, hd, h2⟩ := List.any_eq_true.mp h
 rw [Bool.and_eq_true] at h2
 exact ⟨d, hd, by simpa using h2.1, h2.2⟩
theorem C1t {l : List Cl} : ∀ (n : Nat) (c : Cl), c.pos + c.neg ≤ n → c ∈ l → ∃ d, d ∈ A3o l ∧ below c d = true
 | n, c, hn, hc => by
  cases h : A1w l c with
  | false => exact ⟨c, A4i.mpr ⟨hc, h⟩, D9t c⟩
  | true =>
   obtain ⟨d, hd, hne, hb⟩ := C6m h
   have h1 : c.pos ||| d.pos = c.pos ∧ c.neg ||| d.neg = c.neg := by
    unfold below at hb
    rw [Bool.and_eq_true, decide_eq_true_eq, decide_eq_true_eq] at hb
    exact hb
   have h2 : d.pos ≤ c.pos := by have := Nat.right_le_or (n := c.pos) (m := d.pos); omega
   have h3 : d.neg ≤ c.neg := by have := Nat.right_le_or (n := c.neg) (m := d.neg); omega
   have h4 : d.pos + d.neg < c.pos + c.neg := by
    refine Nat.lt_of_le_of_ne (by omega) fun he => hne ?_
    have e1 : c.pos = d.pos := by omega
    have e2 : c.neg = d.neg := by omega
    cases c; cases d; simp_all
   obtain ⟨e, he, h5⟩ := C1t (d.pos + d.neg) d (Nat.le_refl _) hd
   exact ⟨e, he, C2p hb h5⟩
termination_by n c => c.pos + c.neg
theorem C8v {l : List Cl} {P N : Wd} : sat (A3o l) P N ↔ sat l P N := by
 constructor
 ·rintro ⟨c, hc, h⟩; exact ⟨c, (A4i.mp hc).1, h⟩
 ·rintro ⟨c, hc, h⟩
  obtain ⟨d, hd, hb⟩ := C1t _ c (Nat.le_refl _) hc
  exact ⟨d, hd, B8u hb h⟩
theorem A7k {l : List Cl} {P N : Wd} (h : (A0w l).1 = 0) : sat (A0w l).2 P N ↔ sat l P N := by
 rcases A7a l with ⟨_, _, h2, _⟩ | h2 | h2
 ·rw [h2]; exact C8v
 ·rw [h2] at h; cases h
 ·rw [h2] at h; cases h
theorem C9g {l m : List Cl} (Q : Wd → Wd → Prop) (hl : ∀ c, c ∈ l → Q (B1k c.pos) (B1k c.neg)) (hm : ∀ c, c ∈ m → Q (B1k c.pos) (B1k c.neg)) (h : ∀ P N, Q P N → (sat l P N ↔ sat m P N)) : A3o l = A3o m := by
 have half : ∀ {l m : List Cl}, (∀ c, c ∈ l → Q (B1k c.pos) (B1k c.neg)) → (∀ c, c ∈ m → Q (B1k c.pos) (B1k c.neg)) → (∀ P N, Q P N → (sat l P N ↔ sat m P N)) → ∀ x, x ∈ A3o l → x ∈ A3o m := by
  intro l m hl hm h x hx
  obtain ⟨h1, h2⟩ := A4i.mp hx
  have key : ∀ d, d ∈ m → below x d = true → x = d := by
   intro d hd hb
   obtain ⟨e, he, hse⟩ := (h _ _ (hm d hd)).mpr ⟨d, hd, C0w d⟩
   have hb2 : below d e = true := A9r.mpr hse
   rcases A9k.mp h2 e he with h3 | h3
   ·subst h3; exact D9v hb hb2
   ·rw [C2p hb hb2] at h3; cases h3
  obtain ⟨d, hd, hsd⟩ := (h _ _ (hl x h1)).mp ⟨x, h1, C0w x⟩
  have hxd := key d hd (A9r.mpr hsd)
  refine A4i.mpr ⟨hxd ▸ hd, A9k.mpr fun e he => ?_⟩
  cases hb : below x e with
  | false => exact .inr rfl
  | true => exact .inl (key e he hb)
 exact B7n (A8g l) (A8g m) fun x => ⟨half hl hm h x, half hm hl (fun P N hq => (h P N hq).symm) x⟩
theorem D8v {l m : List Cl} (Q : Wd → Wd → Prop) (r1 : l.all A0q = true) (r2 : m.all A0q = true) (hl : ∀ c, c ∈ l → Q (B1k c.pos) (B1k c.neg)) (hm : ∀ c, c ∈ m → Q (B1k c.pos) (B1k c.neg)) (h : ∀ P N, Q P N → (sat l P N ↔ sat m P N)) : A0w l = A0w m := by
 unfold A0w
 rw [r1, r2, C9g Q hl hm h]
theorem A8k {l : List Cl} (h : A0h l = true) : l.all A0q = true := by
 unfold A0h at h
 simp only [Bool.and_eq_true] at h
 exact h.1.1.1
theorem C2m {c : Cl} : A5s c = false ↔ C7f (B1k c.pos) (B1k c.neg) := by
 unfold A5s C7f B1k
 rw [decide_eq_false_iff_not, Decidable.not_not]
 constructor
 ·rintro h i ⟨h1, h2⟩
  have h3 : (c.pos &&& c.neg).testBit i = true := by rw [Nat.testBit_and, h1, h2]; rfl
  rw [h, Nat.zero_testBit] at h3
  cases h3
 ·intro h
  refine Nat.eq_of_testBit_eq fun i => ?_
  rw [Nat.testBit_and, Nat.zero_testBit]
  cases h1 : c.pos.testBit i with
  | false => rfl
  | true => cases h2 : c.neg.testBit i with
   | false => rfl
   | true => exact absurd ⟨h1, h2⟩ (h i)
theorem A3b {l : List Cl} (h : A0d l = true) : A0h l = true ∧ ∀ c, c ∈ l → A5s c = false := by
 unfold A0d at h
 rw [Bool.and_eq_true, Bool.not_eq_true'] at h
 refine ⟨h.1, fun c hc => ?_⟩
 cases hq : A5s c with
 | false => rfl
 | true => rw [List.any_eq_true.mpr ⟨c, hc, hq⟩] at h; cases h.2
theorem B3r {l : List Cl} (h : A0h l = true) (h2 : ∀ c, c ∈ l → A5s c = false) : A0d l = true := by
 unfold A0d
 rw [Bool.and_eq_true, Bool.not_eq_true', h]
 refine ⟨rfl, ?_⟩
 cases hq : l.any A5s with
 | false => rfl
 | true => obtain ⟨c, hc, h3⟩ := List.any_eq_true.mp hq; rw [h2 c hc] at h3; cases h3
/-! Joins, meets, opposites. -/
section
variable {f g l : List Cl} {P N : Wd} {a b c : Cl}
theorem E1j : ¬ sat [] P N := by rintro ⟨c, hc, _⟩; cases hc
theorem B7r : sat (f ++ g) P N ↔ sat f P N ∨ sat g P N := by
 unfold sat
 simp only [List.mem_append]
 constructor
 ·rintro ⟨c, h | h, h2⟩
  ·exact .inl ⟨c, h, h2⟩
  ·exact .inr ⟨c, h, h2⟩
 ·rintro (⟨c, h, h2⟩ | ⟨c, h, h2⟩)
  ·exact ⟨c, .inl h, h2⟩
  ·exact ⟨c, .inr h, h2⟩
theorem B1n : sat [c] P N ↔ B3x c P N := by
 unfold sat
 constructor
 ·rintro ⟨d, hd, h⟩; rw [List.mem_singleton] at hd; subst hd; exact h
 ·intro h; exact ⟨c, List.mem_singleton.mpr rfl, h⟩
theorem E7g : B3x cl0 P N := ⟨fun i hi => by simp [cl0] at hi, fun i hi => by simp [cl0] at hi⟩
theorem F2t : sat [cl0] P N := B1n.mpr E7g
theorem C8w : B3x (A4d a b) P N ↔ B3x a P N ∧ B3x b P N := by
 unfold B3x A4d
 simp only [Nat.testBit_or, Bool.or_eq_true]
 constructor
 ·rintro ⟨h1, h2⟩; exact ⟨⟨fun i hi => h1 i (.inl hi), fun i hi => h2 i (.inl hi)⟩, fun i hi => h1 i (.inr hi), fun i hi => h2 i (.inr hi)⟩
 ·rintro ⟨h1, h2⟩; exact ⟨fun i hi => hi.elim (h1.1 i) (h2.1 i), fun i hi => hi.elim (h1.2 i) (h2.2 i)⟩
theorem B6l : sat (A9w f g) P N ↔ sat f P N ∧ sat g P N := by
 unfold sat A9w
 simp only [List.mem_flatMap, List.mem_map]
 constructor
 ·rintro ⟨c, ⟨a, ha, b, hb, rfl⟩, h⟩
  have h2 := C8w.mp h
  exact ⟨⟨a, ha, h2.1⟩, b, hb, h2.2⟩
 ·rintro ⟨⟨a, ha, h1⟩, b, hb, h2⟩
  exact ⟨_, ⟨a, ha, b, hb, rfl⟩, C8w.mpr ⟨h1, h2⟩⟩
theorem C5z (hw : C7f P N) : sat (A5t l) P N ↔ sat l P N := by
 unfold sat A5t
 constructor
 ·rintro ⟨c, hc, h⟩; exact ⟨c, (List.mem_filter.mp hc).1, h⟩
 ·rintro ⟨c, hc, h⟩
  refine ⟨c, List.mem_filter.mpr ⟨hc, ?_⟩, h⟩
  rw [Bool.not_eq_true', C2m]
  rintro i ⟨h1, h2⟩
  exact hw i ⟨h.1 i h1, h.2 i h2⟩
end
theorem D6u {i : Int} {j : Nat} : (A7i i).testBit j = true ↔ (0 ≤ i ∧ i < 24) ∧ (j : Int) = i := by
 unfold A7i
 split
 ·rename_i h
  rw [Nat.testBit_two_pow, decide_eq_true_eq]
  omega
 ·rename_i h
  rw [Nat.zero_testBit]
  constructor
  ·intro h2; cases h2
  ·rintro ⟨h2, _⟩; exact absurd h2 h
theorem A7t {s : Nat} {i : Int} {j : Nat} : (A1e s i).testBit j = true ↔ j < 24 ∧ s.testBit j = true ∧ (j : Int) ≠ i := by
 unfold A1e
 split
 ·rename_i h
  rw [A7e, A6d, Nat.testBit_two_pow]
  simp only [Bool.and_eq_true, decide_eq_true_eq, Bool.not_eq_true', decide_eq_false_iff_not]
  constructor
  ·rintro ⟨⟨_, h2, h3⟩, h4⟩; exact ⟨h2, h3, by omega⟩
  ·rintro ⟨h1, h2, h3⟩; exact ⟨⟨by omega, h1, h2⟩, by omega⟩
 ·rename_i h
  rw [A6d]
  simp only [Bool.and_eq_true, decide_eq_true_eq]
  constructor
  ·rintro ⟨h1, h2⟩; exact ⟨h1, h2, by omega⟩
  ·rintro ⟨h1, h2, _⟩; exact ⟨h1, h2⟩
theorem A9i {c : Cl} (h : A0q c = true) : (∀ i, c.pos.testBit i = true → i < 24) ∧ ∀ i, c.neg.testBit i = true → i < 24 := by
 obtain ⟨h1, h2⟩ := A2z.mp h
 have key : ∀ s i : Nat, s < 16777216 → s.testBit i = true → i < 24 := fun s i hs hi => by
  refine Decidable.byContradiction fun hn => ?_
  have h3 : s < 2 ^ i := Nat.lt_of_lt_of_le (show s < 2 ^ 24 by omega) (Nat.pow_le_pow_right (by omega) (by omega))
  rw [Nat.testBit_lt_two_pow h3] at hi
  cases hi
 exact ⟨fun i hi => key _ i h1 hi, fun i hi => key _ i h2 hi⟩
theorem E1k {c : Cl} {i : Int} {P N : Wd} (hc : A0q c = true) : B3x (A0j c i) P N ↔ (∀ j : Nat, c.pos.testBit j = true → (j : Int) ≠ i → P j) ∧ ∀ j : Nat, c.neg.testBit j = true → (j : Int) ≠ i → N j := by
 obtain ⟨h1, h2⟩ := A9i hc
 unfold B3x A0j
 simp only [A7t]
 exact ⟨fun h => ⟨fun j hj hn => h.1 j ⟨h1 j hj, hj, hn⟩, fun j hj hn => h.2 j ⟨h2 j hj, hj, hn⟩⟩, fun h => ⟨fun j hj => h.1 j hj.2.1 hj.2.2, fun j hj => h.2 j hj.2.1 hj.2.2⟩⟩
theorem A6z {s : Nat} {x : Int} : x ∈ A0g s ↔ 0 ≤ x ∧ x < 24 ∧ s.testBit x.toNat = true := A3y
theorem F2s {c : Cl} {P N : Wd} (hc : A0q c = true) : sat (E0c c) P N ↔ (∃ i, c.pos.testBit i = true ∧ N i) ∨ ∃ i, c.neg.testBit i = true ∧ P i := by
 obtain ⟨b1, b2⟩ := A9i hc
 unfold E0c
 rw [B7r]
 have one : ∀ (s : Nat) (hs : ∀ i, s.testBit i = true → i < 24) (mk : Nat → Cl) (Q : Wd) (hq : ∀ x : Int, 0 ≤ x → x < 24 → (B3x (mk (A7i x)) P N ↔ Q x.toNat)), sat ((A0g s).map fun i => mk (A7i i)) P N ↔ ∃ i, s.testBit i = true ∧ Q i := by
  intro s hs mk Q hq
  unfold sat
  simp only [List.mem_map]
  constructor
  ·rintro ⟨_, ⟨x, hx, rfl⟩, h⟩
   obtain ⟨x0, x1, x2⟩ := A6z.mp hx
   exact ⟨x.toNat, x2, (hq x x0 x1).mp h⟩
  ·rintro ⟨i, hi, h⟩
   have h3 := hs i hi
   exact ⟨_, ⟨(i : Int), A6z.mpr ⟨by omega, by omega, by simpa using hi⟩, rfl⟩, (hq (i : Int) (by omega) (by omega)).mpr (by simpa using h)⟩
 have e1 := one c.pos b1 (fun s => ⟨0, s⟩) N (fun x x0 x1 => by
  unfold B3x
  simp only [Nat.zero_testBit, D6u]
  constructor
  ·intro h; exact h.2 x.toNat ⟨⟨x0, x1⟩, by omega⟩
  ·intro h; exact ⟨fun i hi => (by cases hi), fun i hi => (show i = x.toNat by omega) ▸ h⟩)
 have e2 := one c.neg b2 (fun s => ⟨s, 0⟩) P (fun x x0 x1 => by
  unfold B3x
  simp only [Nat.zero_testBit, D6u]
  constructor
  ·intro h; exact h.1 x.toNat ⟨⟨x0, x1⟩, by omega⟩
  ·intro h; exact ⟨fun i hi => (show i = x.toNat by omega) ▸ h, fun i hi => (by cases hi)⟩)
 exact or_congr e1 e2
/-! Folds that are told. -/
theorem B1u {g : List Cl → Cl → EL} {L : List Cl} {I : List Cl → List Cl → Prop} (hs : ∀ pre c h, c ∈ L → I pre h → (g h c).1 = 0 → I (pre ++ [c]) (g h c).2) : ∀ (m pre h : List Cl), I pre h → (∀ c, c ∈ m → c ∈ L) → (A3u g h m).1 = 0 → I (pre ++ m) (A3u g h m).2
 | [], pre, h, hi, _, _ => by rw [List.append_nil]; exact hi
 | c :: m, pre, h, hi, hm, h0 => by
  rw [A3u] at h0 ⊢
  by_cases h1 : (g h c).1 = 0
  ·rw [A2k h1] at h0 ⊢
   have h2 := B1u hs m (pre ++ [c]) _ (hs pre c h (hm c List.mem_cons_self) hi h1) (fun d hd => hm d (List.mem_cons_of_mem _ hd)) h0
   rwa [List.append_assoc] at h2
  ·rw [A2g h1] at h0
   exact absurd h0 h1
theorem A3h {x : EL} {k : List Cl → EL} (h : (B0u x k).1 = 0) : x.1 = 0 ∧ (k x.2).1 = 0 ∧ B0u x k = k x.2 := by
 by_cases h1 : x.1 = 0
 ·rw [A2k h1] at h ⊢; exact ⟨h1, h, rfl⟩
 ·rw [A2g h1] at h; exact absurd h h1
def coW (P : Wd) : Wd := fun i => ¬ P i
theorem E1i {f : List Cl} {P N : Wd} (hf : ∀ c, c ∈ f → A0q c = true) (h : (B4y f).1 = 0) : sat (B4y f).2 P N ↔ ¬ sat f (coW N) (coW P) := by
 have h2 := B1u (g := A3d) (L := f) (I := fun pre h => ∀ P N, sat h P N ↔ ∀ c, c ∈ pre → ¬ B3x c (coW N) (coW P)) (fun pre c h hc hi h0 P N => by
  unfold A3d at h0 ⊢
  obtain ⟨a1, a2, a3⟩ := A3h h0
  rw [a3]
  unfold A9m at a2 ⊢
  rw [A7k a2, B6l, hi]
  unfold C4e at a1 ⊢
  rw [A7k a1, F2s (hf c hc)]
  simp only [List.mem_append, List.mem_singleton, or_imp, forall_and, forall_eq]
  refine and_congr Iff.rfl ?_
  unfold B3x coW
  constructor
  ·rintro (⟨i, hi, hn⟩ | ⟨i, hi, hn⟩) ⟨h1, h2⟩
   ·exact h1 i hi hn
   ·exact h2 i hi hn
  ·intro h1
   refine Classical.byContradiction fun h2 => h1 ⟨fun i hi hn => h2 (.inl ⟨i, hi, hn⟩), fun i hi hn => h2 (.inr ⟨i, hi, hn⟩)⟩) f [] [cl0] (fun P N => ⟨fun _ c hc => (by cases hc), fun _ => F2t⟩) (fun c hc => hc) h P N
 rw [List.nil_append] at h2
 unfold B4y
 rw [h2]
 unfold sat
 constructor
 ·rintro h3 ⟨c, hc, h4⟩; exact h3 c hc h4
 ·intro h3 c hc h4; exact h3 ⟨c, hc, h4⟩
/-! A formula in a dimension's place. -/
def ovr (P : Wd) (i : Int) (A : Prop) : Wd := fun j => if (j : Int) = i then A else P j
theorem B9u {c : Cl} {i : Int} {P N : Wd} {A A' : Prop} (hc : A0q c = true) : B3x c (ovr P i A) (ovr N i A') ↔ B3x (A0j c i) P N ∧ (A3e c.pos i = true → A) ∧ (A3e c.neg i = true → A') := by
 obtain ⟨b1, b2⟩ := A9i hc
 rw [E1k hc]
 unfold B3x ovr A3e
 simp only [Bool.and_eq_true, decide_eq_true_eq]
 constructor
 ·rintro ⟨h1, h2⟩
  refine ⟨⟨fun j hj hn => ?_, fun j hj hn => ?_⟩, ?_, ?_⟩
  ·have := h1 j hj; rwa [if_neg hn] at this
  ·have := h2 j hj; rwa [if_neg hn] at this
  ·rintro ⟨⟨h3, h4⟩, h5⟩; have := h1 _ h5; rwa [if_pos (by omega)] at this
  ·rintro ⟨⟨h3, h4⟩, h5⟩; have := h2 _ h5; rwa [if_pos (by omega)] at this
 ·rintro ⟨⟨h1, h2⟩, h3, h4⟩
  refine ⟨fun j hj => ?_, fun j hj => ?_⟩
  ·split
   ·rename_i h; have := b1 j hj; exact h3 ⟨⟨by omega, by omega⟩, by rw [← h]; simpa using hj⟩
   ·rename_i h; exact h1 j hj h
  ·split
   ·rename_i h; have := b2 j hj; exact h4 ⟨⟨by omega, by omega⟩, by rw [← h]; simpa using hj⟩
   ·rename_i h; exact h2 j hj h
theorem C9d (c : Cl) (i : Int) : A0q (A0j c i) = true := A2z.mpr ⟨A4z _ _, A4z _ _⟩
theorem D2l {f r : List Cl} {i : Int} {P N : Wd} (h : (A1a f i r).1 = 0) : A0h f = true ∧ A0h r = true ∧ (0 ≤ i ∧ i < 24) ∧ (sat (A1a f i r).2 P N ↔ sat f (ovr P i (sat r P N)) (ovr N i (¬ sat r (coW N) (coW P)))) := by
 unfold A1a at h ⊢
 split at h
 ·cases h
 ·rename_i h1
  split at h
  ·cases h
  ·rename_i h2
   rw [if_neg h1, if_neg h2]
   simp only [Bool.not_eq_false, Bool.and_eq_true] at h1
   have h3 : 0 ≤ i ∧ i < 24 := by unfold A5e at h2; simpa using h2
   refine ⟨h1.1, h1.2, h3, ?_⟩
   have hr := A8k h1.2
   have hf := A8k h1.1
   have h4 := B1u (g := A2i i r) (L := f) (I := fun pre h => ∀ P N, sat h P N ↔ ∃ c, c ∈ pre ∧ B3x c (ovr P i (sat r P N)) (ovr N i (¬ sat r (coW N) (coW P)))) (fun pre c h hc hi h0 P N => by
    unfold A2i at h0 ⊢
    obtain ⟨a1, a2, a3⟩ := A3h h0
    rw [a3]
    obtain ⟨b1, b2, b3⟩ := A3h a2
    rw [b3]
    unfold A7b at b2 ⊢
    rw [A7k b2, B7r, hi]
    have hc24 := List.all_eq_true.mp hf c hc
    have e1 : ∀ P N, sat (A3x i r c).2 P N ↔ B3x (A0j c i) P N ∧ (A3e c.pos i = true → sat r P N) := by
     intro P N
     unfold A3x at a1 ⊢
     split
     ·rename_i h5
      rw [if_pos h5] at a1
      unfold A9m at a1 ⊢
      rw [A7k a1, B6l, B1n]
      exact ⟨fun h => ⟨h.1, fun _ => h.2⟩, fun h => ⟨h.1, h.2 h5⟩⟩
     ·rename_i h5
      rw [B1n]
      exact ⟨fun h => ⟨h, fun h6 => absurd h6 h5⟩, fun h => h.1⟩
    have e2 : sat (A7v i r c (A3x i r c).2).2 P N ↔ sat (A3x i r c).2 P N ∧ (A3e c.neg i = true → ¬ sat r (coW N) (coW P)) := by
     unfold A7v at b1 ⊢
     split
     ·rename_i h5
      rw [if_pos h5] at b1
      obtain ⟨d1, d2, d3⟩ := A3h b1
      rw [d3]
      unfold A9m at d2 ⊢
      rw [A7k d2, B6l, E1i (fun c hc => List.all_eq_true.mp hr c hc) d1]
      exact ⟨fun h => ⟨h.1, fun _ => h.2⟩, fun h => ⟨h.1, h.2 h5⟩⟩
     ·rename_i h5
      exact ⟨fun h => ⟨h, fun h6 => absurd h6 h5⟩, fun h => h.1⟩
    rw [e2, e1]
    simp only [List.mem_append, List.mem_singleton]
    constructor
    ·rintro (⟨d, hd, hs⟩ | hs)
     ·exact ⟨d, .inl hd, hs⟩
     ·exact ⟨c, .inr rfl, (B9u hc24).mpr ⟨hs.1.1, hs.1.2, hs.2⟩⟩
    ·rintro ⟨d, hd | hd, hs⟩
     ·exact .inl ⟨d, hd, hs⟩
     ·subst hd
      obtain ⟨q1, q2, q3⟩ := (B9u hc24).mp hs
      exact .inr ⟨⟨q1, q2⟩, q3⟩) f [] [] (fun P N => ⟨fun h => absurd h E1j, fun ⟨c, hc, _⟩ => (by cases hc)⟩) (fun c hc => hc) h P N
   rw [List.nil_append] at h4
   exact h4
end Go.Hy
namespace Go.Hy
theorem F0p {r : List Cl} {P N : Wd} (hw : C7f P N) (h : (ofF r).1 = 0) : sat (ofF r).2 P N ↔ sat r P N := by
 unfold ofF at h ⊢
 split at h
 ·rename_i h1
  rw [if_pos h1, A7k h, C5z hw]
 ·cases h
theorem D7t {r : List Cl} {P N : Wd} (hw : C7f P N) (h : (A1b r).1 = 0) : sat (A1b r).2 P N ↔ ¬ sat r (coW N) (coW P) := by
 unfold A1b at h ⊢
 obtain ⟨a1, a2, a3⟩ := A3h h
 rw [a3, F0p hw a2]
 unfold A4v at a1 ⊢
 split at a1
 ·rename_i h1
  rw [if_pos h1, E1i (fun c hc => List.all_eq_true.mp (A8k h1) c hc) a1]
 ·cases a1
theorem B6s {c : Cl} {x : List Cl} : B0w [c] x = A0w (A5t (x.map fun b => A4d c b)) := by
 unfold B0w
 simp
theorem B8v {c : Cl} {x : List Cl} {P N : Wd} : sat (x.map fun b => A4d c b) P N ↔ B3x c P N ∧ sat x P N := by
 have h := B6l (f := [c]) (g := x) (P := P) (N := N)
 rw [B1n] at h
 rw [← h]
 unfold A9w
 simp
theorem C5c {c : Cl} {i : Int} (h : A5s c = false) : A5s (A0j c i) = false := by
 rw [C2m] at h ⊢
 rintro j ⟨h1, h2⟩
 exact h j ⟨(A7t.mp h1).2.1, (A7t.mp h2).2.1⟩
theorem has_both {c : Cl} {i : Int} (h : A5s c = false) (h1 : A3e c.pos i = true) : A3e c.neg i = false := by
 cases h2 : A3e c.neg i with
 | false => rfl
 | true =>
  unfold A3e at h1 h2
  simp only [Bool.and_eq_true] at h1 h2
  exact absurd ⟨h1.2, h2.2⟩ (C2m.mp h _)
theorem E7f {c : Cl} {r : List Cl} {i : Int} {P N : Wd} (hw : C7f P N) (hcl : A5s c = false) (h : (A2l i r c).1 = 0) : sat (A2l i r c).2 P N ↔ B3x (A0j c i) P N ∧ (A3e c.pos i = true → sat r P N) ∧ (A3e c.neg i = true → ¬ sat r (coW N) (coW P)) := by
 unfold A2l at h ⊢
 split at h
 ·rename_i h1
  rw [if_pos h1]
  obtain ⟨a1, a2, a3⟩ := A3h h
  rw [a3]
  rw [B6s] at a2 ⊢
  rw [A7k a2, C5z hw, B8v, F0p hw a1]
  have h2 := has_both hcl h1
  exact ⟨fun h => ⟨h.1, fun _ => h.2, fun h3 => by rw [h2] at h3; cases h3⟩, fun h => ⟨h.1, h.2.1 h1⟩⟩
 ·rename_i h1
  rw [if_neg h1]
  split at h
  ·rename_i h2
   rw [if_pos h2]
   obtain ⟨a1, a2, a3⟩ := A3h h
   rw [a3]
   rw [B6s] at a2 ⊢
   rw [A7k a2, C5z hw, B8v, D7t hw a1]
   exact ⟨fun h => ⟨h.1, fun h3 => absurd h3 h1, fun _ => h.2⟩, fun h => ⟨h.1, h.2.2 h2⟩⟩
  ·rename_i h2
   rw [if_neg h2, B1n]
   exact ⟨fun h => ⟨h, fun h3 => absurd h3 h1, fun h3 => absurd h3 h2⟩, fun h => h.1⟩
theorem E3b {c : Cl} {r : List Cl} {i : Int} (hcl : A5s c = false) (h : (A2l i r c).1 = 0) : ∀ d, d ∈ (A2l i r c).2 → A5s d = false := by
 have key : ∀ x : List Cl, (B0w [A0j c i] x).1 = 0 → ∀ d, d ∈ (B0w [A0j c i] x).2 → A5s d = false := by
  intro x hx d hd
  rw [B6s] at hx hd
  have h2 := B1t hx hd
  unfold A5t at h2
  simpa using (List.mem_filter.mp h2).2
 unfold A2l at h ⊢
 split at h
 ·rename_i h1
  rw [if_pos h1]
  obtain ⟨a1, a2, a3⟩ := A3h h
  rw [a3]
  exact key _ a2
 ·rename_i h1
  rw [if_neg h1]
  split at h
  ·rename_i h2
   rw [if_pos h2]
   obtain ⟨a1, a2, a3⟩ := A3h h
   rw [a3]
   exact key _ a2
  ·rename_i h2
   rw [if_neg h2]
   intro d hd
   rw [List.mem_singleton] at hd
   subst hd
   exact C5c hcl
theorem C0v {f r : List Cl} {i : Int} (h : (A0v f i r).1 = 0) : A0d f = true ∧ A0h r = true ∧ (0 ≤ i ∧ i < 24) ∧ A0d (A0v f i r).2 = true ∧ ∀ P N, C7f P N → (sat (A0v f i r).2 P N ↔ sat f (ovr P i (sat r P N)) (ovr N i (¬ sat r (coW N) (coW P)))) := by
 unfold A0v at h ⊢
 split at h
 ·cases h
 ·rename_i h1
  rw [if_neg h1]
  simp only [Bool.not_eq_false, Bool.and_eq_true] at h1
  obtain ⟨⟨hf, hi⟩, hr⟩ := h1
  have h3 : 0 ≤ i ∧ i < 24 := by unfold A5e at hi; simpa using hi
  obtain ⟨hff, hfc⟩ := A3b hf
  have hf24 := A8k hff
  refine ⟨hf, hr, h3, ?_⟩
  have h4 := B1u (g := A2d i r) (L := f) (I := fun pre h => A0d h = true ∧ ∀ P N, C7f P N → (sat h P N ↔ ∃ c, c ∈ pre ∧ B3x c (ovr P i (sat r P N)) (ovr N i (¬ sat r (coW N) (coW P))))) (fun pre c h hc hi h0 => by
   unfold A2d at h0 ⊢
   obtain ⟨a1, a2, a3⟩ := A3h h0
   rw [a3]
   unfold A7b at a2 ⊢
   have hcl := hfc c hc
   refine ⟨B3r (A6a a2) fun d hd => ?_, fun P N hw => ?_⟩
   ·rcases List.mem_append.mp (B1t a2 hd) with hd | hd
    ·exact (A3b hi.1).2 d hd
    ·exact E3b hcl a1 d hd
   ·rw [A7k a2, B7r, hi.2 P N hw, E7f hw hcl a1]
    have hc24 := List.all_eq_true.mp hf24 c hc
    simp only [List.mem_append, List.mem_singleton]
    constructor
    ·rintro (⟨d, hd, hs⟩ | hs)
     ·exact ⟨d, .inl hd, hs⟩
     ·exact ⟨c, .inr rfl, (B9u hc24).mpr hs⟩
    ·rintro ⟨d, hd | hd, hs⟩
     ·exact .inl ⟨d, hd, hs⟩
     ·subst hd
      exact .inr ((B9u hc24).mp hs)) f [] [] ⟨by decide, fun P N _ => ⟨fun h => absurd h E1j, fun ⟨c, hc, _⟩ => (by cases hc)⟩⟩ (fun c hc => hc) h
  rw [List.nil_append] at h4
  exact h4
theorem D9c {f r : List Cl} {i : Int} (h : (A1a f i r).1 = 0) : A0h (A1a f i r).2 = true := by
 unfold A1a at h ⊢
 split at h
 ·cases h
 ·rename_i h1
  split at h
  ·cases h
  ·rename_i h2
   rw [if_neg h1, if_neg h2]
   exact B1u (g := A2i i r) (L := f) (I := fun pre h => A0h h = true) (fun pre c h hc hi h0 => by
    unfold A2i at h0 ⊢
    obtain ⟨a1, a2, a3⟩ := A3h h0
    rw [a3]
    obtain ⟨b1, b2, b3⟩ := A3h a2
    rw [b3]
    exact A6a b2) f [] [] (by decide) (fun c hc => hc) h
/-! Lifts, a dimension taken out, where a clause is so. -/
def shW (P : Wd) (f b : Int) : Wd := fun j => if (j : Int) < f then P j else P (j + b.toNat)
theorem C8x {c : Cl} {f b : Int} {P N : Wd} (h : (A1c c f b).1 = 0) : B3x (A1c c f b).2 P N ↔ B3x c (shW P f b) (shW N f b) := by
 obtain ⟨hr, h1, h2, h3⟩ := E5p h
 obtain ⟨b1, b2⟩ := A9i hr
 obtain ⟨f0, b0, _⟩ := B3i h1 0
 rw [h3]
 have key : ∀ (s : Nat) (hs : ∀ i, s.testBit i = true → i < 24) (hm : (A0l s f b).1 = 0) (Q : Wd), (∀ i, (A0l s f b).2.testBit i = true → Q i) ↔ ∀ i, s.testBit i = true → shW Q f b i := by
  intro s hs hm Q
  constructor
  ·intro h i hi
   unfold shW
   split
   ·rename_i h4; exact h i ((A9n hm i).mpr ⟨i, hs i hi, hi, .inl ⟨h4, rfl⟩⟩)
   ·rename_i h4; exact h _ ((A9n hm _).mpr ⟨i, hs i hi, hi, .inr ⟨by omega, by omega⟩⟩)
  ·intro h i hi
   obtain ⟨j, _, hj, h4⟩ := (A9n hm i).mp hi
   have h5 := h j hj
   unfold shW at h5
   rcases h4 with ⟨h4, h6⟩ | ⟨h4, h6⟩
   ·rw [if_pos h4] at h5; rw [h6]; exact h5
   ·rw [if_neg (by omega)] at h5; rw [show i = j + b.toNat by omega]; exact h5
 unfold B3x
 exact and_congr (key _ b1 h1 P) (key _ b2 h2 N)
theorem D4x {l : List Cl} {f b : Int} {P N : Wd} (h : (A0t l f b).1 = 0) : sat (A0t l f b).2 P N ↔ sat l (shW P f b) (shW N f b) := by
 obtain ⟨_, h2, h3⟩ := C2z h
 rw [h3] at h ⊢
 rw [A7k h]
 unfold sat
 simp only [List.mem_map]
 constructor
 ·rintro ⟨_, ⟨c, hc, rfl⟩, hs⟩; exact ⟨c, hc, (C8x (h2 c hc)).mp hs⟩
 ·rintro ⟨c, hc, hs⟩; exact ⟨_, ⟨c, hc, rfl⟩, (C8x (h2 c hc)).mpr hs⟩
theorem G1e (l : List Cl) : (A3o l).length ≤ l.length := by
 have := C6c l l.length
 rwa [D5f] at this
theorem C1u {l : List Cl} (h : l.all A0q = true) (h2 : l.length ≤ 64) : (A0w l).1 = 0 := by
 unfold A0w
 rw [if_neg (by simp [h]), if_neg (by have := G1e l; omega)]
end Go.Hy
namespace Go.Hy
theorem C6a {c : Cl} {i : Int} {P N : Wd} {A A' : Prop} (h : ∀ j : Nat, (c.pos ||| c.neg).testBit j = true → (j : Int) ≠ i) : B3x c (ovr P i A) (ovr N i A') ↔ B3x c P N := by
 unfold B3x ovr
 constructor
 ·rintro ⟨h1, h2⟩
  refine ⟨fun j hj => ?_, fun j hj => ?_⟩
  ·have := h1 j hj; rwa [if_neg (h j (by rw [Nat.testBit_or, hj]; rfl))] at this
  ·have := h2 j hj; rwa [if_neg (h j (by rw [Nat.testBit_or, hj, Bool.or_true]))] at this
 ·rintro ⟨h1, h2⟩
  refine ⟨fun j hj => ?_, fun j hj => ?_⟩
  ·rw [if_neg (h j (by rw [Nat.testBit_or, hj]; rfl))]; exact h1 j hj
  ·rw [if_neg (h j (by rw [Nat.testBit_or, hj, Bool.or_true]))]; exact h2 j hj
theorem E9d {f : List Cl} {i : Int} (hf : f.all A0q = true) (h : A3e (A4e f) i = false) {c : Cl} (hc : c ∈ f) (j : Nat) (hj : (c.pos ||| c.neg).testBit j = true) : (j : Int) ≠ i := by
 intro e
 subst e
 obtain ⟨b1, b2⟩ := A9i (List.all_eq_true.mp hf c hc)
 have hlt : j < 24 := by
  rw [Nat.testBit_or, Bool.or_eq_true] at hj
  exact hj.elim (b1 j) (b2 j)
 unfold A3e at h
 rw [decide_eq_true (show (0 : Int) ≤ (j : Int) by omega), decide_eq_true (show (j : Int) < 24 by omega)] at h
 simp only [Bool.true_and, Int.toNat_natCast] at h
 rw [E5d.mpr ⟨hlt, c, hc, hj⟩] at h
 cases h
theorem D4y {f : List Cl} {i : Int} {P N : Wd} {A A' : Prop} (hf : f.all A0q = true) (h : A3e (A4e f) i = false) : sat f (ovr P i A) (ovr N i A') ↔ sat f P N := by
 unfold sat
 exact exists_congr fun c => and_congr_right fun hc => C6a (fun j hj => E9d hf h hc j hj)
end Go.Hy
namespace Go.Hy
def uE : T := .mk 3 0 ⟨#[]⟩ [] [] []
def aE (t u : T) : T := .mk 6 0 ⟨#[]⟩ [] [t, u] []
end Go.Hy
namespace Go.Hy
/-! ### The chapter's examples of dims -/
def lpE (r : List Cl) : T := .mk 21 0 ⟨#[]⟩ r [] []
def hcE : T := .mk 15 0 ⟨#[]⟩ [] [uE, uE] [.mk [⟨1, 0⟩] [uE]]
def hcF : T := .mk 15 0 ⟨#[]⟩ [] [uE, uE] []
theorem F4t : A5r (lpE [⟨1, 0⟩]) 0 [⟨2, 0⟩] = (0, lpE [⟨2, 0⟩]) := by decide +kernel
theorem E9q : A2q (lpE [⟨1, 0⟩, ⟨2, 0⟩]) 0 [] = (0, lpE [⟨1, 0⟩]) := by decide +kernel
theorem E5e : A0y hcE ⟨0, 1⟩ = (0, hcF) := by decide +kernel
theorem C7b : size (lpE [⟨1, 0⟩]) = 1 ∧ size (lpE [⟨1, 0⟩, ⟨2, 0⟩]) = 1 ∧ size hcE = 4 := by decide +kernel
theorem D4a {t : T} {i : Int} {r : List Cl} (h : okT t) : okT (A5r t i r).2 := by
 unfold A5r
 split
 ·exact B9c
 ·exact B1w (C1i i r) h
theorem C8b {x : Int × T} {k : T → Int × T} (hx : okT x.2) (h : ∀ u, okT u → okT (k u).2) : okT (C0n x k).2 := by
 by_cases h1 : x.1 = 0
 ·rw [A9c h1]; exact h _ hx
 ·rw [A7z h1]; exact B9c
theorem D1e {t : T} {i : Int} {r : List Cl} (h : okT t) : okT (A2q t i r).2 := by
 unfold A2q
 split
 ·exact B9c
 ·split
  ·exact B9c
  ·exact C8b (B1w (C1i _ _) h) fun u hu => B1w (E8d i) hu
theorem C7d {t : T} {c : Cl} (h : okT t) : okT (A0y t c).2 := by
 unfold A0y
 split
 ·exact B9c
 ·split
  ·exact B9c
  ·exact C8b (C9h h) fun u hu => C9h hu
end Go.Hy
namespace Go.Hy
theorem C9e {a b : Cl} (h : A0q a = true) (h2 : A0q b = true) : A0q (A4d a b) = true := by
 obtain ⟨a1, a2⟩ := A2z.mp h
 obtain ⟨b1, b2⟩ := A2z.mp h2
 exact A2z.mpr ⟨Nat.or_lt_two_pow (n := 24) a1 b1, Nat.or_lt_two_pow (n := 24) a2 b2⟩
theorem D1m {f g : List Cl} (h : f.all A0q = true) (h2 : g.all A0q = true) : (A9w f g).all A0q = true := List.all_eq_true.mpr fun c hc => by
 obtain ⟨a, ha, hc⟩ := List.mem_flatMap.mp hc
 obtain ⟨b, hb, rfl⟩ := List.mem_map.mp hc
 exact C9e (List.all_eq_true.mp h a ha) (List.all_eq_true.mp h2 b hb)
theorem F5f {f g : List Cl} (h : f.all A0q = true) (h2 : g.all A0q = true) : (f ++ g).all A0q = true := by rw [List.all_append, h, h2]; rfl
theorem C4j {f : List Cl} (h : (B4y f).1 = 0) : A0h (B4y f).2 = true :=
 B1u (g := A3d) (L := f) (I := fun pre h => A0h h = true) (fun pre c h hc hi h0 => by
  unfold A3d at h0 ⊢
  obtain ⟨a1, a2, a3⟩ := A3h h0
  rw [a3]
  exact A6a a2) f [] [cl0] (by decide) (fun c hc => hc) h
theorem F9w {c : Cl} (h : A0q c = true) : A0h [c] = true := by
 unfold A0h
 simp [h, B3b, apart]
/-- A row of a node that may be. -/
theorem D8z {k n : Int} {nm : ByteArray} {r : List Cl} (h : B5a k n nm r) : (k = 14 → A0d r = true) ∧ A0h r = true := by
 obtain ⟨_, _, h3, h4, h5, h6, h7⟩ := h
 refine ⟨h6, ?_⟩
 by_cases e : k = 13 ∨ k = 21 ∨ k = 26
 ·exact h5 e
 ·by_cases e2 : k = 14
  ·exact (A3b (h6 e2)).1
  ·rw [h7 (by omega)]; decide
end Go.Hy
namespace Go.Hy
theorem E7r {P : List Cl → Int → List Cl → EL} {i d : Int} {r f : List Cl} (h : A3e (A4e f) (i + d) = false) : A2y P i r d f = (0, f) := by
 unfold A2y
 rw [if_pos h]
end Go.Hy
namespace Go.Hy
/-! ### Putting a formula in a dimension's place, and lifting -/
theorem F0n (N : Wd) (f b : Int) : shW (coW N) f b = coW (shW N f b) := by
 funext j
 unfold shW coW
 by_cases h : (j : Int) < f
 ·simp only [if_pos h]
 ·simp only [if_neg h]
/-- What is put at a depth. -/
def atP (r : List Cl) (d : Int) (P N : Wd) : Prop := sat r (shW P 0 d) (shW N 0 d)
def atN (r : List Cl) (d : Int) (P N : Wd) : Prop := ¬ sat r (coW (shW N 0 d)) (coW (shW P 0 d))
theorem D6y {r : List Cl} {d : Int} {P N : Wd} (h : (A0t r 0 d).1 = 0) : sat (A0t r 0 d).2 P N ↔ atP r d P N := D4x h
theorem D6z {r : List Cl} {d : Int} {P N : Wd} (h : (A0t r 0 d).1 = 0) : (¬ sat (A0t r 0 d).2 (coW N) (coW P)) ↔ atN r d P N := by
 unfold atN
 rw [D4x h, F0n, F0n]
theorem D2j {f r x : List Cl} {i d : Int} {P N : Wd} (hf : A0h f = true) (h : A2y A1a i r d f = (0, x)) : A0h x = true ∧ (sat x P N ↔ sat f (ovr P (i + d) (atP r d P N)) (ovr N (i + d) (atN r d P N))) := by
 unfold A2y at h
 split at h
 ·rename_i h1
  injection h with _ h
  subst h
  exact ⟨hf, (D4y (A8k hf) h1).symm⟩
 ·obtain ⟨a1, a2, a3⟩ := A3h (by rw [h] : (B0u (A0t r 0 d) fun s => A1a f (i + d) s).1 = 0)
  rw [a3] at h
  have h0 : (A1a f (i + d) (A0t r 0 d).2).1 = 0 := by rw [h]
  have hx : x = (A1a f (i + d) (A0t r 0 d).2).2 := by rw [h]
  rw [hx]
  refine ⟨D9c h0, ?_⟩
  rw [(D2l h0).2.2.2]
  rw [propext (D6y (P := P) (N := N) a1), propext (D6z (P := P) (N := N) a1)]
theorem D2k {f r x : List Cl} {i d : Int} (hf : A0d f = true) (h : A2y A0v i r d f = (0, x)) : A0d x = true ∧ ∀ P N, C7f P N → (sat x P N ↔ sat f (ovr P (i + d) (atP r d P N)) (ovr N (i + d) (atN r d P N))) := by
 unfold A2y at h
 split at h
 ·rename_i h1
  injection h with _ h
  subst h
  exact ⟨hf, fun P N _ => (D4y (A8k (A3b hf).1) h1).symm⟩
 ·obtain ⟨a1, a2, a3⟩ := A3h (by rw [h] : (B0u (A0t r 0 d) fun s => A0v f (i + d) s).1 = 0)
  rw [a3] at h
  have h0 : (A0v f (i + d) (A0t r 0 d).2).1 = 0 := by rw [h]
  have hx : x = (A0v f (i + d) (A0t r 0 d).2).2 := by rw [h]
  rw [hx]
  refine ⟨(C0v h0).2.2.2.1, fun P N hw => ?_⟩
  rw [(C0v h0).2.2.2.2 P N hw]
  rw [propext (D6y (P := P) (N := N) a1), propext (D6z (P := P) (N := N) a1)]
end Go.Hy
namespace Go.Hy
theorem E4t {f g : List Cl} (h : (A2o f g).1 = 0) : (A2o f g).2.length ≤ 64 ∧ A0d (A2o f g).2 = true := by
 unfold A2o at h ⊢
 split at h
 ·cases h
 ·rename_i h1
  rw [if_neg h1]
  simp only [Bool.not_eq_false, Bool.and_eq_true] at h1
  unfold A7b at h ⊢
  have hr := A6a h
  refine ⟨A7m hr, B3r hr fun c hc => ?_⟩
  rcases List.mem_append.mp (B1t h hc) with hc | hc
  ·exact (A3b h1.1).2 c hc
  ·exact (A3b h1.2).2 c hc
theorem B2p {l : List Cl} (h : (A0w l).1 ≠ 0) : (A0w l).2 = [] := by
 unfold A0w at h ⊢
 (repeat' split) <;> simp_all
theorem E4u {f g : List Cl} (h : (A2o f g).1 ≠ 0) : (A2o f g).2 = [] := by
 unfold A2o at h ⊢
 split
 ·rfl
 ·rename_i h1
  rw [if_neg h1] at h
  unfold A7b at h ⊢
  exact B2p h
end Go.Hy
namespace Go.Hy
/-! ### Systems without branches -/
section
variable {C : Type} {A : Tr C}
end
/-! ### The document's answers -/
def A5y (l : List Cl) : List Cl := l.filter fun c => !B0b c
theorem E5q {l : List Cl} {i : Nat} (h : i < l.length) (hc : B0b (l.getD i cl0) = false) : A5y (l.take (i + 1)) = A5y (l.take i) ++ [l.getD i cl0] := by
 unfold A5y
 rw [A0i (d := cl0) h, List.filter_append, List.filter_cons, if_pos (by rw [hc]; rfl), List.filter_nil]
theorem E9z {l : List Cl} {i : Nat} (h : i < l.length) (hc : B0b (l.getD i cl0) = true) : A5y (l.take (i + 1)) = A5y (l.take i) := by
 unfold A5y
 rw [A0i (d := cl0) h, List.filter_append, List.filter_cons, if_neg (by rw [hc]; decide), List.filter_nil, List.append_nil]
theorem D1j (l : List Cl) : (A5y l).length ≤ l.length := List.length_filter_le _ _
theorem C0z {l : List Cl} (h : l.all A0q = true) : A5y l = A5t l := by
 unfold A5y A5t
 refine List.filter_congr fun c hc => ?_
 rw [B6n (List.all_eq_true.mp h c hc)]
theorem C5e {l : List Cl} (h : ∀ c, c ∈ l → A5s c = false) : A5t l = l := by
 unfold A5t
 exact List.filter_eq_self.mpr fun c hc => by rw [h c hc]; rfl
theorem C4u {f g : List Cl} : A2o f g = if (A0d f && A0d g) = false then (2, []) else A0w (A5y (f ++ g)) := by
 unfold A2o
 split
 ·rfl
 ·rename_i h
  simp only [Bool.not_eq_false, Bool.and_eq_true] at h
  rw [C0z (F5f (A8k (A3b h.1).1) (A8k (A3b h.2).1)), C5e fun c hc => (List.mem_append.mp hc).elim ((A3b h.1).2 c) ((A3b h.2).2 c)]
  rfl
end Go.Hy
namespace Go.Hy
def B8j (x : T) : Int × T := if x.kind < 0 then (-x.kind, t0) else (0, x)
end Go.Hy
namespace Go.Hy
/-! ### The document's sets of dimensions -/
theorem E8u (s : Nat) : (A0g s).Pairwise (· < ·) := by
 unfold A0g A2f
 rw [List.pairwise_map]
 refine List.Pairwise.imp (fun {a b} h => by omega) ((List.pairwise_lt_range (n := 24)).filter _)
theorem B6k (l : List Int) (x : Int) : B2d (l ++ [x]) = B2d l + 2 ^ x.toNat := by simp [B2d]
theorem C8s (x : Int) (l : List Int) : B2d (x :: l) = 2 ^ x.toNat + B2d l := by simp [B2d]
/-- A rising list's set has its members as bits. -/
theorem D4w : ∀ {l : List Int} {a : Nat}, l.Pairwise (· < ·) → (∀ x, x ∈ l → (a : Int) ≤ x) → ∃ q, B2d l = 2 ^ a * q ∧ ∀ j : Nat, (B2d l).testBit j = true ↔ (j : Int) ∈ l
 | [], a, _, _ => ⟨0, by simp [B2d], fun j => by simp [B2d]⟩
 | x :: l, a, hp, ha => by
  have hx := ha x List.mem_cons_self
  obtain ⟨h1, h2⟩ := List.pairwise_cons.mp hp
  obtain ⟨q, hq, hb⟩ := D4w (l := l) (a := x.toNat + 1) h2 fun y hy => by have := h1 y hy; omega
  have hlt : 2 ^ x.toNat < 2 ^ (x.toNat + 1) := Nat.pow_lt_pow_right (by decide) (by omega)
  have e : B2d (x :: l) = 2 ^ (x.toNat + 1) * q ||| 2 ^ x.toNat := by
   rw [C8s, hq, ← Nat.two_pow_add_eq_or_of_lt hlt, Nat.add_comm]
  refine ⟨2 ^ (x.toNat - a) * (2 * q + 1), ?_, fun j => ?_⟩
  ·rw [C8s, hq, ← Nat.mul_assoc, ← Nat.pow_add, show a + (x.toNat - a) = x.toNat by omega, Nat.pow_succ, Nat.mul_add, Nat.mul_one, Nat.mul_assoc]
   omega
  ·rw [e, Nat.testBit_or, Bool.or_eq_true, ← hq, hb, List.mem_cons, Nat.testBit_two_pow, decide_eq_true_eq]
   constructor
   ·rintro (h | h)
    ·exact .inr h
    ·exact .inl (by omega)
   ·rintro (h | h)
    ·exact .inr (by omega)
    ·exact .inl h
theorem E7e {l : List Int} (h : l.Pairwise (· < ·)) (h0 : ∀ x, x ∈ l → 0 ≤ x) (j : Nat) : (B2d l).testBit j = true ↔ (j : Int) ∈ l := by
 obtain ⟨_, _, h2⟩ := D4w (a := 0) h fun x hx => by have := h0 x hx; omega
 exact h2 j
theorem D5y {a b : Nat} (h : ∀ j, a.testBit j = true ↔ b.testBit j = true) : a = b := Nat.eq_of_testBit_eq fun j => by
 have := h j
 cases h1 : a.testBit j <;> cases h2 : b.testBit j <;> simp_all
theorem D2i (s : Nat) (i : Int) : B2d ((A0g s).filter fun x => decide (x ≠ i)) = A1e s i := D5y fun j => by
 rw [E7e ((E8u s).filter _) (fun x hx => (A6z.mp (List.mem_filter.mp hx).1).1), List.mem_filter, A6z, A7t]
 simp only [decide_eq_true_eq, Int.toNat_natCast]
 constructor
 ·rintro ⟨⟨_, h2, h3⟩, h4⟩; exact ⟨by omega, h3, h4⟩
 ·rintro ⟨h2, h3, h4⟩; exact ⟨⟨by omega, by omega, h3⟩, h4⟩
theorem C0d {s : Nat} {i : Int} {j : Nat} : (B0v s i).testBit j = true ↔ j < 24 ∧ (s.testBit j = true ∨ (j : Int) = i) := by
 have h24 : (s &&& 16777215).testBit j = true ↔ j < 24 ∧ s.testBit j = true := by
  rw [show (16777215 : Nat) = 2 ^ 24 - 1 by decide, Nat.testBit_and, Nat.testBit_two_pow_sub_one, Bool.and_eq_true, decide_eq_true_eq, and_comm]
 unfold B0v
 split
 ·rename_i h
  rw [Nat.testBit_or, Bool.or_eq_true, h24, Nat.testBit_two_pow, decide_eq_true_eq]
  constructor
  ·rintro (h1 | h1)
   ·exact ⟨h1.1, .inl h1.2⟩
   ·exact ⟨by omega, .inr (by omega)⟩
  ·rintro ⟨h1, h2 | h2⟩
   ·exact .inl ⟨h1, h2⟩
   ·exact .inr (by omega)
 ·rename_i h
  rw [h24]
  constructor
  ·rintro ⟨h1, h2⟩; exact ⟨h1, .inl h2⟩
  ·rintro ⟨h1, h2 | h2⟩
   ·exact ⟨h1, h2⟩
   ·omega
theorem C8r {X Y i : Nat} (h : ∀ j, j ≠ i → (X.testBit j = true ↔ Y.testBit j = true)) (hx : X.testBit i = true) (hy : Y.testBit i = false) : ∀ n, B2d (A2f X n) = B2d (A2f Y n) + if i < n then 2 ^ i else 0
 | 0 => by simp [A2f, B2d]
 | n + 1 => by
  have ih := C8r h hx hy n
  rw [A5n, A5n]
  by_cases e : n = i
  ·subst e
   rw [if_pos hx, if_neg (by simp [hy]), B6k, ih, if_neg (Nat.lt_irrefl _), if_pos (Nat.lt_succ_self _), Int.toNat_natCast]
   omega
  ·have h1 := h n e
   by_cases hb : Y.testBit n = true
   ·rw [if_pos hb, if_pos (h1.mpr hb), B6k, B6k, ih]
    by_cases hi : i < n
    ·rw [if_pos hi, if_pos (by omega)]; omega
    ·rw [if_neg hi, if_neg (by omega)]; omega
   ·rw [if_neg hb, if_neg (fun h2 => hb (h1.mp h2)), ih]
    by_cases hi : i < n
    ·rw [if_pos hi, if_pos (by omega)]
    ·rw [if_neg hi, if_neg (by omega)]
theorem F6i {s : Nat} (h : s < 16777216) : B2d (A0g s) = s := by rw [B7q, D4h]; exact Nat.mod_eq_of_lt h
theorem E7c {s : Nat} {i : Int} (h : 0 ≤ i ∧ i < 24) : B2d (A0g (A1e s i) ++ [i]) = B0v s i := by
 rw [B6k]
 have hf := C8r (X := B0v s i) (Y := A1e s i) (i := i.toNat) (fun j hj => by
  rw [C0d, A7t]
  constructor
  ·rintro ⟨h1, h2 | h2⟩
   ·exact ⟨h1, h2, by omega⟩
   ·omega
  ·rintro ⟨h1, h2, _⟩; exact ⟨h1, .inl h2⟩) (C0d.mpr ⟨by omega, .inr (by omega)⟩) (by
  cases hb : (A1e s i).testBit i.toNat with
  | false => rfl
  | true => have := (A7t.mp hb).2.2; omega) 24
 rw [if_pos (by omega)] at hf
 rw [← hf]
 exact F6i (C5k s i)
theorem D1v (s : Nat) : A1e s (-1) = s &&& 16777215 := by unfold A1e; rw [if_neg (by decide)]
theorem E6n {s : Nat} {i : Int} (h : ¬ (0 ≤ i ∧ i < 24)) : B0v s i = A1e s (-1) := by rw [D1v]; unfold B0v; rw [if_neg h]
/-- Sets, joined. -/
theorem E0q {a b : Nat} (ha : a < 16777216) (hb : b < 16777216) : (A0g b).foldl B0v a = a ||| b := D5y fun j => by
 have key : ∀ (l : List Int) (x : Nat), x < 16777216 → ((l.foldl B0v x).testBit j = true ↔ x.testBit j = true ∨ ((j : Int) ∈ l ∧ j < 24)) := by
  intro l
  induction l with
  | nil => intro x hx; simp
  | cons y l ih =>
   intro x hx
   rw [List.foldl_cons, ih _ (C5k x y), C0d, List.mem_cons]
   have h24 : x.testBit j = true → j < 24 := fun h => Nat.lt_of_not_le fun h2 => by
    rw [Nat.testBit_lt_two_pow (Nat.lt_of_lt_of_le hx (Nat.pow_le_pow_right (n := 2) (i := 24) (by omega) h2))] at h
    cases h
   constructor
   ·rintro (⟨h1, h2 | h2⟩ | h2)
    ·exact .inl h2
    ·exact .inr ⟨.inl h2, h1⟩
    ·exact .inr ⟨.inr h2.1, h2.2⟩
   ·rintro (h1 | ⟨h1 | h1, h2⟩)
    ·exact .inl ⟨h24 h1, .inl h1⟩
    ·exact .inl ⟨h2, .inr h1⟩
    ·exact .inr ⟨h1, h2⟩
 rw [key _ _ ha, Nat.testBit_or, Bool.or_eq_true, A6z]
 have h24 : b.testBit j = true → j < 24 := fun h => Nat.lt_of_not_le fun h2 => by
  rw [Nat.testBit_lt_two_pow (Nat.lt_of_lt_of_le hb (Nat.pow_le_pow_right (n := 2) (i := 24) (by omega) h2))] at h
  cases h
 constructor
 ·rintro (h | h)
  ·exact .inl h
  ·exact .inr (by simpa using h.1.2.2)
 ·rintro (h | h)
  ·exact .inl h
  ·exact .inr ⟨⟨by omega, by have := h24 h; omega, by simpa using h⟩, h24 h⟩
theorem D9d {l : List Int} {a : Nat} {k : Nat} (h : k < l.length) : (l.take (k + 1)).foldl B0v a = B0v ((l.take k).foldl B0v a) (l.getD k 0) := by
 rw [A0i (d := 0) h, List.foldl_append]; rfl
theorem E9l {l : List Int} {k : Nat} {p : Int → Bool} (h : k < l.length) (hp : p (l.getD k 0) = true) : (l.take (k + 1)).filter p = (l.take k).filter p ++ [l.getD k 0] := by
 rw [A0i (d := 0) h, List.filter_append, List.filter_cons, if_pos hp, List.filter_nil]
theorem F4s {l : List Int} {k : Nat} {p : Int → Bool} (h : k < l.length) (hp : p (l.getD k 0) = false) : (l.take (k + 1)).filter p = (l.take k).filter p := by
 rw [A0i (d := 0) h, List.filter_append, List.filter_cons, if_neg (by rw [hp]; decide), List.filter_nil, List.append_nil]
theorem G0l {s : Nat} : ∀ x, x ∈ A0g s → 0 ≤ x ∧ x < 24 := fun x hx => ⟨(A6z.mp hx).1, (A6z.mp hx).2.1⟩
theorem F4b (s : Nat) : (A0g s).length ≤ 24 := by
 unfold A0g A2f
 rw [List.length_map]
 exact Nat.le_trans (List.length_filter_le _ _) (by simp)
end Go.Hy
