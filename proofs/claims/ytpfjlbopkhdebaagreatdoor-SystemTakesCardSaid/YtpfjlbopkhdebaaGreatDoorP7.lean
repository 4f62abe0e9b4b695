/- Contracts of this program's functions and the laws that they need. -/
import Derived.Lib.TrailingZeros
import Derived.LaidMore
import Derived.OpenShut
import Derived.Stop.Joined
import Derived.MakeChecks
import Derived.Shelf.Spec.TrailingZeros
import Derived.Test.YtpfjlbopkhdebaaGreatDoorP6
set_option linter.unusedVariables false
set_option linter.unusedSimpArgs false
set_option linter.unusedSectionVars false
namespace Go.Hy
def G3 (k n : Int) (nm : ByteArray) (r : List Cl) : Prop :=
 (k ≠ 1 → n = 0) ∧ (k ≠ 2 → nm.toList = (ByteArray.mk #[]).toList) ∧ (k = 1 → r = [] ∧ 0 ≤ n) ∧ (k = 2 → r = [] ∧ Ku nm = true) ∧ (k = 13 ∨ k = 21 ∨ k = 26 → A9 r = true) ∧ (k = 14 → A2 r = true) ∧ (k ≠ 13 ∧ k ≠ 21 ∧ k ≠ 26 ∧ k ≠ 14 → r = [])
mutual
def Dy : T → Prop
 | .mk k n nm r ks ss => G3 k n nm r ∧ Ch k = (ks.length : Int) ∧ (C6 k = 0 → ss = []) ∧ Fs ks ∧ Mt k ss
def Fs : List T → Prop
 | [] => True
 | t :: ts => Dy t ∧ Fs ts
def Mt (k : Int) : List Br → Prop
 | [] => True
 | .mk f ks :: bs => (ks.length : Int) = C6 k ∧ A2 f = true ∧ Fs ks ∧ Mt k bs
end
theorem Q8 {k : Int} (h : k = 1 ∨ k = 2 ∨ k = 13 ∨ k = 21 ∨ k = 26 ∨ k = 14) : C6 k = 0 := by
 unfold C6
 rcases h with h | h | h | h | h | h <;> subst h <;> decide
theorem A7j (l : List Cl) {d : Int} (h : 24 ≤ d) : within l d = true := by unfold within; rw [decide_eq_true h]; rfl
theorem len_nil {α : Type} {l : List α} : ((l.length : Int) = 0) ↔ l = [] := by
 constructor
 ·intro h; exact List.eq_nil_of_length_eq_zero A3
 ·rintro rfl; rfl
theorem Zg {k n : Int} {nm : ByteArray} {r : List Cl} {ks : List T} {ss : List Br} {d : Int} (hd : 24 ≤ d) : Pg (.mk k n nm r ks ss) (-1) d = true ↔ G3 k n nm r ∧ Ch k = (ks.length : Int) ∧ (C6 k = 0 → ss = []) ∧ ∀ b, b ∈ ss → (b.kids.length : Int) = C6 k ∧ A2 b.An = true := by
 have hB : ∀ b : Br, Ps (.mk k n nm r ks ss) d b = (decide ((b.kids.length : Int) = C6 k) && A2 b.An) := fun b => by
  unfold Ps; rw [A7j _ hd, Bool.and_true]; rfl
 have hL : (0 : Int) < (ss.length : Int) ↔ ss ≠ [] := by
  constructor
  ·intro h e; subst e; simp at h
  ·intro h; have := List.length_pos_iff.mpr h; omega
 have hs : ∀ p : Bool, (ss.all (Ps (.mk k n nm r ks ss) d) = true) ↔ ∀ b, b ∈ ss → (b.kids.length : Int) = C6 k ∧ A2 b.An = true := fun _ => by
  rw [List.all_eq_true]
  exact forall_congr' fun b => forall_congr' fun _ => by rw [hB]; simp
 unfold Pg Kc G3
 simp only [T.kind, T.n, T.name, T.r, T.kids, T.sys, A7j _ hd, Bool.and_true, Bool.and_eq_true, Bool.not_eq_true', Bool.or_eq_false_iff, Bool.and_eq_false_iff, decide_eq_false_iff_not, Decidable.not_not, ne_eq, Int.not_lt, Bool.not_eq_false', beq_iff_eq]
 constructor
 ·rintro ⟨⟨⟨⟨h1, h2⟩, h3⟩, h4⟩, h5⟩
  replace h1 : Ch k = (ks.length : Int) := Decidable.not_not.mp (of_decide_eq_false h1)
  replace h2 : k = 1 ∨ n = 0 := h2.imp (fun h => Decidable.not_not.mp (of_decide_eq_false h)) (fun h => Decidable.not_not.mp (of_decide_eq_false h))
  replace h3 : k = 2 ∨ nm.toList = (ByteArray.mk #[]).toList := h3.imp (fun h => Decidable.not_not.mp (of_decide_eq_false h)) id
  replace h4 : ¬ C6 k = 0 ∨ ¬ (0 : Int) < (ss.length : Int) := h4.imp (fun h => of_decide_eq_false h) (fun h => of_decide_eq_false h)
  have hss : C6 k = 0 → ss = [] := by
   intro h
   rcases h4 with h4 | h4
   ·exact absurd h h4
   ·exact List.eq_nil_of_length_eq_zero A3
  split at h5
  ·rename_i hk
   have he := hss (Q8 A3)
   subst he
   simp only [Bool.and_eq_true, decide_eq_true_eq] at h5
   exact ⟨⟨by omega, fun _ => h3.resolve_left A3, fun _ => ⟨len_nil.mp (of_decide_eq_true h5.1.1), of_decide_eq_true h5.1.2⟩, by omega, by omega, by omega, fun _ => len_nil.mp (of_decide_eq_true h5.1.1)⟩, h1, hss, fun b hb => by cases hb⟩
  ·split at h5
   ·rename_i hk1 hk
    have he := hss (Q8 A3)
    subst he
    simp only [Bool.and_eq_true, decide_eq_true_eq] at h5
    exact ⟨⟨by omega, fun h => absurd hk h, by omega, fun _ => ⟨len_nil.mp (of_decide_eq_true h5.1), h5.2⟩, by omega, by omega, fun _ => len_nil.mp (of_decide_eq_true h5.1)⟩, h1, hss, fun b hb => by cases hb⟩
   ·split at h5
    ·rename_i hk1 hk2 hk
     have he := hss (Q8 A3)
     subst he
     exact ⟨⟨by omega, fun _ => h3.resolve_left A3, by omega, by omega, fun _ => h5, by omega, by omega⟩, h1, hss, fun b hb => by cases hb⟩
    ·split at h5
     ·rename_i hk1 hk2 hk3 hk
      have he := hss (Q8 A3)
      subst he
      exact ⟨⟨by omega, fun _ => h3.resolve_left A3, by omega, by omega, by omega, fun _ => h5, by omega⟩, h1, hss, fun b hb => by cases hb⟩
     ·rename_i hk1 hk2 hk3 hk4
      simp only [Bool.and_eq_true, decide_eq_true_eq] at h5
      exact ⟨⟨by omega, fun _ => h3.resolve_left A3, by omega, by omega, by omega, by omega, fun _ => len_nil.mp (of_decide_eq_true h5.2)⟩, h1, hss, (hs true).mp h5.1⟩
 ·rintro ⟨⟨a1, a2, a3, a4, a5, a6, a7⟩, b1, b2, b3⟩
  refine ⟨⟨⟨⟨decide_eq_false (Decidable.not_not.mpr b1), ?_⟩, ?_⟩, ?_⟩, ?_⟩
  ·by_cases h : k = 1
   ·exact .inl (decide_eq_false (Decidable.not_not.mpr h))
   ·exact .inr (decide_eq_false (Decidable.not_not.mpr (a1 h)))
  ·by_cases h : k = 2
   ·exact .inl (decide_eq_false (Decidable.not_not.mpr h))
   ·exact .inr (a2 h)
  ·by_cases h : C6 k = 0
   ·exact .inr (decide_eq_false (by rw [b2 h]; decide))
   ·exact .inl (decide_eq_false h)
  ·split
   ·rename_i h; simp [(a3 h).1, (a3 h).2]
   ·split
    ·rename_i h; simp [(a4 h).1, (a4 h).2]
    ·split
     ·rename_i h; exact a5 h
     ·split
      ·rename_i h; exact a6 h
      ·rename_i h1 h2 h3 h4
       rw [Bool.and_eq_true, (hs true)]
       exact ⟨b3, by simp [a7 A3]⟩
theorem Ud : ∀ {ts : List T}, Fs ts ↔ ∀ t, t ∈ ts → Dy t
 | [] => by simp [Fs]
 | t :: ts => by simp [Fs, Ud (ts := ts)]
theorem Zr {k : Int} : ∀ {bs : List Br}, Mt k bs ↔ ∀ b, b ∈ bs → (b.kids.length : Int) = C6 k ∧ A2 b.An = true ∧ Fs b.kids
 | [] => by simp [Mt]
 | .mk f ks :: bs => by
  simp only [Mt, Zr (bs := bs), List.forall_mem_cons, Br.kids, Br.An]
  constructor
  ·rintro ⟨h1, h2, h3, h4⟩; exact ⟨⟨h1, h2, h3⟩, h4⟩
  ·rintro ⟨⟨h1, h2, h3⟩, h4⟩; exact ⟨h1, h2, h3, h4⟩
theorem N7 {t : T} : Dy t ↔ G3 t.kind t.n t.name t.r ∧ Ch t.kind = (t.kids.length : Int) ∧ (C6 t.kind = 0 → t.sys = []) ∧ Fs t.kids ∧ Mt t.kind t.sys := by
 obtain ⟨k, n, nm, r, ks, ss⟩ := t
 simp only [Dy, T.kind, T.n, T.name, T.r, T.kids, T.sys]
theorem A5h {t : T} : Dy t ↔ (∀ d : Int, 24 ≤ d → Pg t (-1) d = true) ∧ ∀ p, p ∈ parts t → Dy p.1 := by
 rw [N7, Ud, Zr]
 have ho : ∀ d : Int, 24 ≤ d → (Pg t (-1) d = true ↔ G3 t.kind t.n t.name t.r ∧ Ch t.kind = (t.kids.length : Int) ∧ (C6 t.kind = 0 → t.sys = []) ∧ ∀ b, b ∈ t.sys → (b.kids.length : Int) = C6 t.kind ∧ A2 b.An = true) := by
  intro d hd
  obtain ⟨k, n, nm, r, ks, ss⟩ := t
  exact Zg hd
 constructor
 ·rintro ⟨h1, h2, h3, h4, h5⟩
  refine ⟨fun d hd => (ho d hd).mpr ⟨h1, h2, h3, fun b hb => ⟨(h5 b hb).1, (h5 b hb).2.1⟩⟩, fun p hp => ?_⟩
  rcases A3r hp with ⟨i, hi, rfl⟩ | ⟨s, k, hs, hk, rfl⟩
  ·exact h4 _ (Ag hi)
  ·exact Ud.mp (h5 _ (Ag hs)).2.2 _ (Ag hk)
 ·rintro ⟨h1, h2⟩
  obtain ⟨a1, a2, a3, a4⟩ := (ho 24 A3).mp (h1 24 A3)
  refine ⟨a1, a2, a3, fun k hk => ?_, fun b hb => ⟨(a4 b hb).1, (a4 b hb).2, Ud.mpr fun k hk => ?_⟩⟩
  ·obtain ⟨p, hp, e⟩ := Hg hk; exact e ▸ h2 p hp
  ·obtain ⟨p, hp, e⟩ := He hb hk; exact e ▸ h2 p hp
theorem D5y : ∀ (t : T) (d : Int), 24 ≤ d → (Lp t (-1) d false = true ↔ Dy t) := T.ind fun t ih d hd => by
 rw [C5q, A5h]
 have hw : ∀ p : Part, IntKind.i64.wrap (-1 + if (-1 : Int) < 0 then 0 else p.2.1) = -1 := fun p => by rw [if_pos K1]; decide
 constructor
 ·rintro ⟨_, h2, h3⟩
  refine ⟨fun d' hd' => ?_, fun p hp => ?_⟩
  ·obtain ⟨k, n, nm, r, ks, ss⟩ := t
   exact (Zg hd').mpr ((Zg hd).mp h2)
  ·have h4 := h3 p hp
   rw [hw] at h4
   have h5 := A3p hp
   exact (ih p hp (d + p.2.2) A3).mp h4
 ·rintro ⟨h1, h2⟩
  refine ⟨by simp, h1 d hd, fun p hp => ?_⟩
  rw [hw]
  have h5 := A3p hp
  exact (ih p hp (d + p.2.2) A3).mpr (h2 p hp)
theorem Lg {t : T} : B5 t = 0 ↔ sized t = 0 ∧ Dy t := by rw [B7v, D5y t 24 A3]
section
variable {C : Type} {A : Tr C}
mutual
theorem Yv (ho : ∀ c k n nm r p, G3 k n nm r → A.own c k n nm r = .ok (.inr p) → G3 k p.1 nm p.2) (hi : ∀ c k n nm r u, G3 k n nm r → A.own c k n nm r = .ok (.inl u) → Dy u) (hf : ∀ c f f', A2 f = true → A.An c f = .ok (some f') → A2 f' = true) : ∀ {t : T} {c : C} {u : T}, Dy t → C1 A t c = .ok u → Dy u
 | .mk k n nm r ks ss, c, u, h, hu => by
  simp only [Dy] at h
  obtain ⟨h1, h2, h3, h4, h5⟩ := h
  rw [H8] at hu
  simp only [T.kind, T.n, T.name, T.r, T.kids, T.sys] at hu
  obtain ⟨o, h9, hu⟩ := Ao.Ab hu
  cases o with
  | inl v => injection hu with hu; subst hu; exact hi _ _ _ _ _ _ h1 h9
  | inr p =>
   obtain ⟨ks', h10, hu⟩ := Ao.Ab hu
   obtain ⟨ss', h11, hu⟩ := Ao.Ab hu
   injection hu with hu
   subst hu
   simp only [Dy]
   refine ⟨ho _ _ _ _ _ _ h1 h9, by rw [L6 h10]; exact h2, fun h => ?_, A2s ho hi hf h4 h10, Vr ho hi hf h5 h11⟩
   have h12 := Im h11
   rw [h3 h] at h12
   exact List.eq_nil_of_length_eq_zero (Nat.le_zero.mp h12)
theorem A2s (ho : ∀ c k n nm r p, G3 k n nm r → A.own c k n nm r = .ok (.inr p) → G3 k p.1 nm p.2) (hi : ∀ c k n nm r u, G3 k n nm r → A.own c k n nm r = .ok (.inl u) → Dy u) (hf : ∀ c f f', A2 f = true → A.An c f = .ok (some f') → A2 f' = true) {kd : Int} : ∀ {ts : List T} {i : Nat} {c : C} {us : List T}, Fs ts → Du A kd i ts c = .ok us → Fs us
 | [], i, c, us, h, hu => by rw [Dj] at hu; injection hu with hu; subst hu; simp only [Fs]
 | t :: ts, i, c, us, h, hu => by
  simp only [Fs] at h
  rw [Db] at hu
  obtain ⟨c', _, hu⟩ := Ao.Ab hu
  obtain ⟨t', h2, hu⟩ := Ao.Ab hu
  obtain ⟨ts', h3, hu⟩ := Ao.Ab hu
  injection hu with hu
  subst hu
  simp only [Fs]
  exact ⟨Yv ho hi hf h.1 h2, A2s ho hi hf h.2 h3⟩
theorem A2r (ho : ∀ c k n nm r p, G3 k n nm r → A.own c k n nm r = .ok (.inr p) → G3 k p.1 nm p.2) (hi : ∀ c k n nm r u, G3 k n nm r → A.own c k n nm r = .ok (.inl u) → Dy u) (hf : ∀ c f f', A2 f = true → A.An c f = .ok (some f') → A2 f' = true) {kd : Int} : ∀ {ts : List T} {c : C} {us : List T}, Fs ts → D3 A kd ts c = .ok us → Fs us
 | [], c, us, h, hu => by rw [Di] at hu; injection hu with hu; subst hu; simp only [Fs]
 | t :: ts, c, us, h, hu => by
  simp only [Fs] at h
  rw [Da] at hu
  obtain ⟨c', _, hu⟩ := Ao.Ab hu
  obtain ⟨t', h2, hu⟩ := Ao.Ab hu
  obtain ⟨ts', h3, hu⟩ := Ao.Ab hu
  injection hu with hu
  subst hu
  simp only [Fs]
  exact ⟨Yv ho hi hf h.1 h2, A2r ho hi hf h.2 h3⟩
theorem Vr (ho : ∀ c k n nm r p, G3 k n nm r → A.own c k n nm r = .ok (.inr p) → G3 k p.1 nm p.2) (hi : ∀ c k n nm r u, G3 k n nm r → A.own c k n nm r = .ok (.inl u) → Dy u) (hf : ∀ c f f', A2 f = true → A.An c f = .ok (some f') → A2 f' = true) {kd : Int} : ∀ {bs : List Br} {c : C} {us : List Br}, Mt kd bs → Dv A kd bs c = .ok us → Mt kd us
 | [], c, us, h, hu => by rw [Dk] at hu; injection hu with hu; subst hu; simp only [Mt]
 | .mk f ks :: bs, c, us, h, hu => by
  simp only [Mt] at h
  obtain ⟨h1, h2, h3, h4⟩ := h
  rw [Dc] at hu
  simp only [Br.An, Br.kids] at hu
  obtain ⟨o, h5, hu⟩ := Ao.Ab hu
  cases o with
  | none => exact Vr ho hi hf h4 hu
  | some f' =>
   obtain ⟨ks', h6, hu⟩ := Ao.Ab hu
   obtain ⟨bs', h7, hu⟩ := Ao.Ab hu
   injection hu with hu
   subst hu
   simp only [Mt]
   exact ⟨by rw [L5 h6]; exact h1, hf _ _ _ h2 h5, A2r ho hi hf h3 h6, Vr ho hi hf h4 h7⟩
end
end
section
variable {CA CB CC : Type} {A : Tr CA} {B : Tr CB} {D : Tr CC} (R : CA → CB → CC → Prop)
variable {R}
end
section
variable {CA CC : Type} {A : Tr CA} {D : Tr CC} (R : CA → CC → Prop)
variable {R}
end
theorem Md {s : Nat} {f b : Int} (h : (Ak s f b).1 = 0) (i : Nat) : 0 ≤ f ∧ 0 ≤ b ∧ (Ak s f b).2.testBit i = ((decide (i < min f.toNat 24) && (s &&& 16777215).testBit i) || (decide (min f.toNat 24 + b.toNat ≤ i) && (s &&& 16777215).testBit (i - b.toNat))) := by
  by_cases h0 : f < 0 ∨ b < 0
  · rw [Ak, if_pos h0] at h; cases h
  · have hq : ∀ j, (s &&& 16777215).testBit j = true → j < 24 := fun j hj => by rw [Eh, Bool.and_eq_true, decide_eq_true_eq] at hj; exact hj.1
    refine ⟨by omega, by omega, ?_⟩
    generalize hF : min f.toNat 24 = F at *
    by_cases h1 : Bn (s &&& 16777215) (2 ^ (min f.toNat 24) - 1) = 0
    · rw [Ak, if_neg h0, if_pos h1]
      show ((s &&& 16777215) &&& (2 ^ (min f.toNat 24) - 1)).testBit i = _
      rw [hF] at h1 ⊢
      rw [Nat.testBit_and, Mc]
      have h2 : (decide (F + b.toNat ≤ i) && (s &&& 16777215).testBit (i - b.toNat)) = false := by
        cases h3 : (s &&& 16777215).testBit (i - b.toNat) with
        | false => rw [Bool.and_false]
        | true =>
          rw [Bool.and_true]
          refine decide_eq_false (fun h4 => ?_)
          have h5 : (Bn (s &&& 16777215) (2 ^ F - 1)).testBit (i - b.toNat) = true := by
            rw [Gh, Mc, h3, decide_eq_true (by have := hq _ h3; omega), decide_eq_false A3]; rfl
          rw [h1, Nat.zero_testBit] at h5
          cases h5
      rw [h2, Bool.or_false, Bool.and_comm]
    · by_cases h2 : 24 ≤ b ∨ 16777215 < Bn (s &&& 16777215) (2 ^ (min f.toNat 24) - 1) * 2 ^ b.toNat
      · rw [Ak, if_neg h0, if_neg h1, if_pos h2] at h; cases h
      · rw [Ak, if_neg h0, if_neg h1, if_neg h2]
        show (((s &&& 16777215) &&& (2 ^ (min f.toNat 24) - 1)) ||| (Bn (s &&& 16777215) (2 ^ (min f.toNat 24) - 1) * 2 ^ b.toNat)).testBit i = _
        rw [hF, Nat.testBit_or, Nat.testBit_and, Mc, Nat.testBit_mul_two_pow, Gh, Mc]
        cases h3 : (s &&& 16777215).testBit (i - b.toNat) with
        | false => simp [Bool.and_comm]
        | true =>
          have h4 := hq _ h3
          rw [decide_eq_true (show i - b.toNat < 32 by omega)]
          simp only [Bool.and_true, Bool.true_and]
          rw [Bool.and_comm]
          congr 1
          by_cases h5 : F + b.toNat ≤ i
          · rw [decide_eq_true (show b.toNat ≤ i by omega), decide_eq_false (show ¬ i - b.toNat < F by omega), decide_eq_true h5]; rfl
          · rw [decide_eq_false h5]
            by_cases h6 : b.toNat ≤ i
            · rw [decide_eq_true h6, decide_eq_true (show i - b.toNat < F by omega)]; rfl
            · rw [decide_eq_false h6]; rfl
theorem A4m {p q : Nat} {f b : Int} (hp : (Ak p f b).1 = 0) (hq : (Ak q f b).1 = 0) (h : p &&& q = 0) : (Ak p f b).2 &&& (Ak q f b).2 = 0 := by
  refine Nat.eq_of_testBit_eq (fun i => ?_)
  have hb : ∀ j, (p &&& 16777215).testBit j = true → (q &&& 16777215).testBit j = true → False := fun j h1 h2 => by
    rw [Eh, Bool.and_eq_true] at h1 h2
    have : (p &&& q).testBit j = true := by rw [Nat.testBit_and, h1.2, h2.2]; rfl
    rw [h, Nat.zero_testBit] at this
    cases this
  rw [Nat.testBit_and, (Md hp i).2.2, (Md hq i).2.2, Nat.zero_testBit]
  cases h1 : (p &&& 16777215).testBit i <;> cases h2 : (q &&& 16777215).testBit i <;> cases h3 : (p &&& 16777215).testBit (i - b.toNat) <;> cases h4 : (q &&& 16777215).testBit (i - b.toNat) <;> first
    | exact (hb _ h1 h2).elim
    | exact (hb _ h3 h4).elim
    | (simp only [Bool.and_true, Bool.and_false, Bool.or_false, Bool.false_or, Bool.and_eq_false_iff, decide_eq_false_iff_not]; done)
    | (by_cases h5 : i < min f.toNat 24
       · rw [decide_eq_true h5, decide_eq_false (show ¬ min f.toNat 24 + b.toNat ≤ i by omega)]; simp
       · rw [decide_eq_false h5]; simp)
theorem B0f {c : Cl} {f b : Int} (h : (B4 c f b).1 = 0) : Av c = true ∧ (Ak c.pos f b).1 = 0 ∧ (Ak c.neg f b).1 = 0 ∧ (B4 c f b).2 = ⟨(Ak c.pos f b).2, (Ak c.neg f b).2⟩ := by
  unfold B4 at h ⊢
  split at h
  · cases h
  · rename_i h1
    split at h
    · rename_i h2; exact absurd h h2
    · rename_i h2
      split at h
      · rename_i h3; exact absurd h h3
      · rename_i h3
        rw [if_neg h1, if_neg h2, if_neg h3]
        exact ⟨by simpa using h1, Decidable.not_not.mp h2, Decidable.not_not.mp h3, rfl⟩
theorem B3s {c : Cl} {f b : Int} (h : (B4 c f b).1 = 0) (hc : Ew c = false) : Ew (B4 c f b).2 = false := by
  obtain ⟨_, h1, h2, h3⟩ := B0f h
  rw [h3]
  unfold Ew at hc ⊢
  have h4 : c.pos &&& c.neg = 0 := Decidable.not_not.mp (of_decide_eq_false hc)
  exact decide_eq_false (Decidable.not_not.mpr (A4m h1 h2 h4))
theorem Ha (l : List Cl) : ((Am l).1 = 0 ∧ l.all Av = true ∧ (Am l).2 = Ej l ∧ (Ej l).length ≤ 64) ∨ (Am l).1 = 2 ∨ (Am l).1 = 3 := by
  unfold Am
  split
  · exact .inr (.inl rfl)
  · rename_i h1
    split
    · exact .inr (.inr rfl)
    · rename_i h2
      exact .inl ⟨rfl, by simpa using h1, rfl, by omega⟩
theorem Fo {l : List Cl} (h : (Am l).1 = 0) : A9 (Am l).2 = true := by
  rcases Ha l with ⟨_, h1, h2, h3⟩ | h1 | h1
  · rw [h2]
    unfold A9
    rw [Bool.and_eq_true, Bool.and_eq_true, Bool.and_eq_true]
    refine ⟨⟨⟨List.all_eq_true.mpr fun c hc => List.all_eq_true.mp h1 c (Fx.mp hc).1, Q2.mpr (Kk l)⟩, Zz.mpr fun a ha b hb => Ma.mp (Fx.mp ha).2 b (Fx.mp hb).1⟩, decide_eq_true h3⟩
  · rw [h1] at h; cases h
  · rw [h1] at h; cases h
theorem Kv {l : List Cl} (h : (Am l).1 = 0) {c : Cl} (hc : c ∈ (Am l).2) : c ∈ l := by
  rcases Ha l with ⟨_, h1, h2, h3⟩ | h1 | h1
  · rw [h2] at hc; exact (Fx.mp hc).1
  · rw [h1] at h; cases h
  · rw [h1] at h; cases h
theorem Pl {l : List Cl} {f b : Int} (h : (Aa l f b).1 = 0) : A9 l = true ∧ (∀ c, c ∈ l → (B4 c f b).1 = 0) ∧ Aa l f b = Am (l.map fun c => (B4 c f b).2) := by
  unfold Aa at h ⊢
  split at h
  · cases h
  · rename_i h1
    split at h
    · rename_i h2; exact absurd h h2
    · rename_i h2
      have h3 : (Ge (fun c => B4 c f b) l).1 = 0 := Decidable.not_not.mp h2
      rw [if_neg h1, if_neg h2]
      exact ⟨by simpa using h1, A9q.mp h3, by rw [C8q h3]⟩
theorem A1b {l : List Cl} {f b : Int} (h : (Aa l f b).1 = 0) : A9 (Aa l f b).2 = true := by
  obtain ⟨_, _, h3⟩ := Pl h
  rw [h3] at h ⊢
  exact Fo h
theorem A6y {l : List Cl} {f b : Int} (h : (Aa l f b).1 = 0) (hl : A2 l = true) : A2 (Aa l f b).2 = true := by
  obtain ⟨_, h2, h3⟩ := Pl h
  have hf := A1b h
  unfold A2 at hl ⊢
  rw [Bool.and_eq_true, Bool.not_eq_true'] at hl ⊢
  refine ⟨hf, ?_⟩
  rw [List.any_eq_false]
  intro c hc
  rw [h3] at h hc
  obtain ⟨d, hd, rfl⟩ := List.mem_map.mp (Kv h hc)
  have h4 := List.any_eq_false.mp hl.2 d hd
  rw [Bool.not_eq_true] at h4 ⊢
  exact B3s (h2 d hd) h4
theorem B9x {l g : List Cl} {f b : Int} (h : C5 b l f = .ok g) (hl : A9 l = true) : A9 g = true := by
  unfold C5 at h
  split at h
  · injection h with h; subst h; exact hl
  · split at h
    · rename_i h2; injection h with h; subst h; exact A1b h2
    · cases h
theorem Xo {l g : List Cl} {f b : Int} (h : C5 b l f = .ok g) (hl : A2 l = true) : A2 g = true := by
  unfold C5 at h
  split at h
  · injection h with h; subst h; exact hl
  · split at h
    · rename_i h2; injection h with h; subst h; exact A6y h2 hl
    · cases h
theorem Wc : A9 [] = true := by decide
theorem Ya (f b : Int) : Aa [] f b = (0, []) := by
  unfold Aa
  rw [if_neg (by rw [Wc]; decide)]
  have h : Ge (fun c => B4 c f b) [] = (0, []) := rfl
  rw [h, if_neg K1]
  exact Va.mp Wc
theorem A0n (f b : Int) : C5 b [] f = .ok [] := by
  unfold C5
  rw [Ya]
  simp
theorem C8f {vb db : Int} (hv : 0 ≤ vb) {t u : T} {c : Int × Int} (h : Dy t) (hu : C1 (Bj vb db) t c = .ok u) : Dy u := by
  refine Yv (A := Bj vb db) ?_ ?_ ?_ h hu
  · intro c k n nm r p h ho
    obtain ⟨h1, h2, h3, h4, h5, h6, h7⟩ := h
    obtain ⟨g, hg, ho⟩ := Ao.Ab (x := C5 db r c.2) ho
    have hnil : r = [] → g = [] := fun e => by rw [e, A0n] at hg; injection hg with hg; exact hg.symm
    have key : ∀ n', (k ≠ 1 → n' = n) → (k = 1 → 0 ≤ n') → G3 k n' nm g := fun n' e1 e2 =>
      ⟨fun hk => by rw [e1 hk]; exact h1 hk, h2, fun hk => ⟨hnil (h3 hk).1, e2 hk⟩, fun hk => ⟨hnil (h4 hk).1, (h4 hk).2⟩, fun hk => B9x hg (h5 hk), fun hk => Xo hg (h6 hk), fun hk => hnil (h7 hk)⟩
    split at ho
    · rename_i hk
      split at ho
      · cases ho
      · injection ho with ho; injection ho with ho; subst ho
        exact key _ (fun h => absurd hk.1 h) (fun h => by have := (h3 h).2; dsimp only; omega)
    · injection ho with ho; injection ho with ho; subst ho
      exact key _ (fun _ => rfl) (fun h => (h3 h).2)
  · intro c k n nm r u _ ho
    exact absurd ho S3
  · intro c f f' hf ho
    obtain ⟨g, hg, ho⟩ := Ao.Ab (x := C5 db f c.2) ho
    injection ho with ho; injection ho with ho; subst ho
    exact Xo hg hf
section
variable {C : Type} {A : Tr C}
end
theorem Xn (l : List Cl) (f : Int) : C5 0 l f = .ok l := by unfold C5; rw [if_pos (.inl rfl)]
theorem Ti {vb db : Int} {c : Int × Int} {k n : Int} {nm : ByteArray} {r : List Cl} : (Bj vb db).own c k n nm r = (C5 db r c.2).bind fun r' => if k = 1 ∧ c.1 ≤ n ∧ 1000000000 - vb < n then .bad 100 else .ok (.inr (Hi vb c.1 k n, r')) := by
  simp only [Bj, Hi]
  congr 1
  funext g
  by_cases h1 : k = 1 ∧ c.1 ≤ n
  · rw [if_pos h1, if_pos h1]
    by_cases h2 : 1000000000 - vb < n
    · rw [if_pos h2, if_pos ⟨h1.1, h1.2, h2⟩]
    · rw [if_neg h2, if_neg (fun h => h2 h.2.2)]
  · rw [if_neg h1, if_neg h1, if_neg (fun h => h1 ⟨h.1, h.2.1⟩)]
theorem Qu {vb db : Int} {c : Int × Int} {f : List Cl} : (Bj vb db).An c f = (C5 db f c.2).bind fun f' => .ok (some f') := rfl
mutual
theorem A1q {a : Int} : ∀ {t : T} {c : Int × Int} {e : Int}, C1 (Bj a 0) t c = .bad e → e = 100
  | .mk k n nm r ks ss, c, e, h => by
    rw [H8] at h
    simp only [T.kind, T.n, T.name, T.r, T.kids, T.sys] at h
    rw [Ti, Xn] at h
    simp only [Ao.bind] at h
    by_cases h6 : k = 1 ∧ c.1 ≤ n ∧ 1000000000 - a < n
    · rw [if_pos h6] at h; injection h with h; exact h.symm
    · rw [if_neg h6] at h
      simp only at h
      cases h1 : Du (Bj a 0) k 0 ks c with
      | bad e' => rw [h1] at h; injection h with h; exact h ▸ B4r h1
      | ok x =>
        rw [h1] at h
        simp only at h
        cases h2 : Dv (Bj a 0) k ss c with
        | bad e' => rw [h2] at h; injection h with h; exact h ▸ B4s h2
        | ok y => rw [h2] at h; cases h
theorem B4r {a k : Int} : ∀ {ts : List T} {i : Nat} {c : Int × Int} {e : Int}, Du (Bj a 0) k i ts c = .bad e → e = 100
  | [], i, c, e, h => by rw [Dj] at h; cases h
  | t :: ts, i, c, e, h => by
    rw [Db, Re] at h
    simp only [Ao.bind] at h
    cases h1 : C1 (Bj a 0) t (c.1 + (binds k i).1, c.2 + (binds k i).2) with
    | bad e' => rw [h1] at h; injection h with h; exact h ▸ A1q h1
    | ok x =>
      rw [h1] at h
      simp only at h
      cases h2 : Du (Bj a 0) k (i + 1) ts c with
      | bad e' => rw [h2] at h; injection h with h; exact h ▸ B4r h2
      | ok y => rw [h2] at h; cases h
theorem B4q {a k : Int} : ∀ {ts : List T} {c : Int × Int} {e : Int}, D3 (Bj a 0) k ts c = .bad e → e = 100
  | [], c, e, h => by rw [Di] at h; cases h
  | t :: ts, c, e, h => by
    rw [Da, Re] at h
    simp only [Ao.bind] at h
    cases h1 : C1 (Bj a 0) t (c.1 + 0, c.2 + more k) with
    | bad e' => rw [h1] at h; injection h with h; exact h ▸ A1q h1
    | ok x =>
      rw [h1] at h
      simp only at h
      cases h2 : D3 (Bj a 0) k ts c with
      | bad e' => rw [h2] at h; injection h with h; exact h ▸ B4q h2
      | ok y => rw [h2] at h; cases h
theorem B4s {a k : Int} : ∀ {bs : List Br} {c : Int × Int} {e : Int}, Dv (Bj a 0) k bs c = .bad e → e = 100
  | [], c, e, h => by rw [Dk] at h; cases h
  | .mk f ks :: bs, c, e, h => by
    rw [Dc, Qu] at h
    simp only [Br.An, Br.kids] at h
    rw [Xn] at h
    simp only [Ao.bind] at h
    cases h1 : D3 (Bj a 0) k ks c with
    | bad e' => rw [h1] at h; injection h with h; exact h ▸ B4q h1
    | ok x =>
      rw [h1] at h
      simp only at h
      cases h2 : Dv (Bj a 0) k bs c with
      | bad e' => rw [h2] at h; injection h with h; exact h ▸ B4s h2
      | ok y => rw [h2] at h; cases h
end
theorem A5s (c : Cl) (f b : Int) : (B4 c f b).1 = 0 ∨ (B4 c f b).1 = 2 ∨ (B4 c f b).1 = 10 := by
  have hm : ∀ s, (Ak s f b).1 = 0 ∨ (Ak s f b).1 = 2 ∨ (Ak s f b).1 = 10 := fun s => by
    unfold Ak
    split
    · exact .inr (.inl rfl)
    · split
      · exact .inl rfl
      · split
        · exact .inr (.inr rfl)
        · exact .inl rfl
  unfold B4
  split
  · exact .inr (.inl rfl)
  · split
    · exact hm _
    · split
      · exact hm _
      · exact .inl rfl
def I7 (r : Ao T) : Int × T := match r with
  | .ok u => (0, u)
  | .bad e => (e, t0)
theorem B7s {t : T} {ns : List Int} {r : Ao T} (h : B5 t = 0) (h2 : ns.all (fun n => decide (0 ≤ n)) = true) : Cc t ns r = I7 r := by
  cases r with
  | ok u => exact B7r h h2 rfl
  | bad e => exact A9l h h2 rfl
theorem Zk {b : Int} (h0 : 0 ≤ b) (h1 : b ≤ 1000000) : 0 ≤ E1 b := by rw [B2s (by unfold Au; omega) h0]; omega
section
variable {C : Type} {A : Tr C}
theorem B4w {k : Int} {c : C} : ∀ {ts : List T} {i : Nat}, (∀ j, j < ts.length → ∃ c' u, A.S6 c (binds k ((i + j : Nat) : Int)) = .ok c' ∧ C1 A (ts.getD j t0) c' = .ok u) → ∃ us, Du A k i ts c = .ok us
 | [], i, h => ⟨[], Dj _ _ _⟩
 | t :: ts, i, h => by
  obtain ⟨c', u, h1, h2⟩ := h 0 Ec
  obtain ⟨us, h3⟩ := B4w (ts := ts) (i := i + 1) (fun j hj => by
   have := h (j + 1) (by simpa using hj)
   rw [List.getD_cons_succ, show i + (j + 1) = i + 1 + j by omega] at this
   exact this)
  rw [Nat.add_zero] at h1
  rw [List.getD_cons_zero] at h2
  exact ⟨u :: us, by rw [Db, h1]; simp only [Ao.bind]; rw [h2]; simp only; rw [h3]⟩
theorem B4u {k : Int} {c : C} : ∀ {ts : List T}, (∀ j, j < ts.length → ∃ c' u, A.S6 c (0, more k) = .ok c' ∧ C1 A (ts.getD j t0) c' = .ok u) → ∃ us, D3 A k ts c = .ok us
 | [], h => ⟨[], Di _ _⟩
 | t :: ts, h => by
  obtain ⟨c', u, h1, h2⟩ := h 0 Ec
  obtain ⟨us, h3⟩ := B4u (ts := ts) (fun j hj => by
   have := h (j + 1) (by simpa using hj)
   rw [List.getD_cons_succ] at this
   exact this)
  rw [List.getD_cons_zero] at h2
  exact ⟨u :: us, by rw [Da, h1]; simp only [Ao.bind]; rw [h2]; simp only; rw [h3]⟩
end
theorem Spec.A5a {P : Program} {k : FuncId} {args : Array Value} {pre : List Fact} {Ms0 : List Bq} {α X : Type} (r : α) {val : α → X → Value} {N : α → X → List Fact} {Ms1 : α → X → List Bq} (h : Spec P k args pre Ms0 (val r) (N r) (Ms1 r)) :
  Spec P k args pre Ms0 (fun x : {x : α × X // x.1 = r} => val x.1.1 x.1.2) (fun x => N x.1.1 x.1.2) (fun x => Ms1 x.1.1 x.1.2) := fun ok w hk hs => (h ok w hk hs).mono fun e w' hh => by
 obtain ⟨x, he, hs'⟩ := hh
 exact ⟨⟨(r, x), rfl⟩, he, hs'⟩
section
variable {C : Type} {A : Tr C}
theorem B4x {k : Int} {c : C} : ∀ {ts us : List T} {i : Nat}, Du A k i ts c = .ok us → us.length = ts.length ∧ ∀ j, j < us.length → ∃ c', A.S6 c (binds k ((i + j : Nat) : Int)) = .ok c' ∧ C1 A (ts.getD j t0) c' = .ok (us.getD j t0)
 | [], us, i, h => by rw [Dj] at h; injection h with h; subst h; exact ⟨rfl, fun j hj => absurd hj Ec⟩
 | t :: ts, us, i, h => by
  rw [Db] at h
  obtain ⟨c', h1, h⟩ := Ao.Ab h
  obtain ⟨t', h2, h⟩ := Ao.Ab h
  obtain ⟨ts', h3, h⟩ := Ao.Ab h
  injection h with h
  subst h
  obtain ⟨h4, h5⟩ := B4x h3
  refine ⟨by simp [h4], fun j hj => ?_⟩
  cases j with
  | zero => exact ⟨c', by simpa using h1, by simpa using h2⟩
  | succ j =>
   obtain ⟨d, h6, h7⟩ := h5 j (by simpa using hj)
   exact ⟨d, by rw [show i + (j + 1) = i + 1 + j by omega]; exact h6, by rw [List.getD_cons_succ, List.getD_cons_succ]; exact h7⟩
theorem B4v {k : Int} {c : C} : ∀ {ts us : List T}, D3 A k ts c = .ok us → us.length = ts.length ∧ ∀ j, j < us.length → ∃ c', A.S6 c (0, more k) = .ok c' ∧ C1 A (ts.getD j t0) c' = .ok (us.getD j t0)
 | [], us, h => by rw [Di] at h; injection h with h; subst h; exact ⟨rfl, fun j hj => absurd hj Ec⟩
 | t :: ts, us, h => by
  rw [Da] at h
  obtain ⟨c', h1, h⟩ := Ao.Ab h
  obtain ⟨t', h2, h⟩ := Ao.Ab h
  obtain ⟨ts', h3, h⟩ := Ao.Ab h
  injection h with h
  subst h
  obtain ⟨h4, h5⟩ := B4v h3
  refine ⟨by simp [h4], fun j hj => ?_⟩
  cases j with
  | zero => exact ⟨c', h1, by simpa using h2⟩
  | succ j =>
   obtain ⟨d, h6, h7⟩ := h5 j (by simpa using hj)
   exact ⟨d, h6, by rw [List.getD_cons_succ, List.getD_cons_succ]; exact h7⟩
theorem A2t {k : Int} {c : C} : ∀ {bs us : List Br}, Dv A k bs c = .ok us → us.length ≤ bs.length ∧ ∀ u, u ∈ us → ∃ b, b ∈ bs ∧ A.An c b.An = .ok (some u.An) ∧ D3 A k b.kids c = .ok u.kids
 | [], us, h => by rw [Dk] at h; injection h with h; subst h; exact ⟨Nat.le_refl _, fun u hu => (by cases hu)⟩
 | b :: bs, us, h => by
  rw [Dc] at h
  obtain ⟨o, h1, h⟩ := Ao.Ab h
  cases o with
  | none =>
   obtain ⟨h4, h5⟩ := A2t h
   exact ⟨by simp only [List.length_cons]; omega, fun u hu => by obtain ⟨x, hx, h6⟩ := h5 u hu; exact ⟨x, List.mem_cons_of_mem _ hx, h6⟩⟩
  | some f' =>
   obtain ⟨ks', h2, h⟩ := Ao.Ab h
   obtain ⟨bs', h3, h⟩ := Ao.Ab h
   injection h with h
   subst h
   obtain ⟨h4, h5⟩ := A2t h3
   refine ⟨by simp only [List.length_cons]; omega, fun u hu => ?_⟩
   rcases List.mem_cons.mp hu with rfl | hu
   ·exact ⟨b, List.mem_cons_self, h1, h2⟩
   ·obtain ⟨x, hx, h6⟩ := h5 u hu; exact ⟨x, List.mem_cons_of_mem _ hx, h6⟩
theorem Y2 {α : Type} {d x : α} {l : List α} (h : x ∈ l) : ∃ i, i < l.length ∧ l.getD i d = x := by
 obtain ⟨i, hi, e⟩ := List.mem_iff_getElem.mp h
 exact ⟨i, hi, by rw [Gd (d := d) hi]; exact e⟩
theorem B4t {t u : T} {c : C} (h : C1 A t c = .ok u) : A.own c t.kind t.n t.name t.r = .ok (.inl u) ∨ ∃ p, A.own c t.kind t.n t.name t.r = .ok (.inr p) ∧ (u.kind = t.kind ∧ u.n = p.1 ∧ u.name = t.name ∧ u.r = p.2) ∧
  (∀ q, q ∈ parts u → ∃ p, p ∈ parts t ∧ p.2 = q.2 ∧ ∃ c', A.S6 c p.2 = .ok c' ∧ C1 A p.1 c' = .ok q.1) ∧ ∀ b', b' ∈ u.sys → ∃ b, b ∈ t.sys ∧ A.An c b.An = .ok (some b'.An) := by
 rw [H8] at h
 obtain ⟨o, h1, h⟩ := Ao.Ab h
 cases o with
 | inl v => injection h with h; subst h; exact .inl h1
 | inr p =>
  obtain ⟨ks', h2, h⟩ := Ao.Ab h
  obtain ⟨ss', h3, h⟩ := Ao.Ab h
  injection h with h
  subst h
  obtain ⟨l1, l2⟩ := B4x h2
  obtain ⟨b1, b2⟩ := A2t h3
  refine .inr ⟨p, h1, ⟨rfl, rfl, rfl, rfl⟩, fun q hq => ?_, fun b' hb' => ?_⟩
  ·rcases A3r hq with ⟨i, hi, rfl⟩ | ⟨s, j, hs, hj, rfl⟩
   ·simp only [T.kids, T.kind] at hi ⊢
    obtain ⟨c', h4, h5⟩ := l2 i hi
    exact ⟨_, List.mem_of_getElem? (Eg t i A3), rfl, c', by rw [Nat.zero_add] at h4; exact h4, h5⟩
   ·simp only [T.sys, T.kind] at hs hj ⊢
    obtain ⟨b, hb, _, h6⟩ := b2 _ (Ag (d := Bp) hs)
    obtain ⟨h7, h8⟩ := B4v h6
    obtain ⟨c', h9, h10⟩ := h8 j hj
    obtain ⟨s', hs', e⟩ := Y2 (d := Bp) hb
    refine ⟨_, List.mem_of_getElem? (Et t s' j hs' (by rw [e]; omega)), rfl, c', h9, ?_⟩
    rw [e]; exact h10
  ·obtain ⟨b, hb, h6, _⟩ := b2 b' hb'
   exact ⟨b, hb, h6⟩
theorem B4y {k : Int} {c : C} : ∀ {bs : List Br}, (∀ b, b ∈ bs → A.An c b.An = .ok none ∨ ∃ f', A.An c b.An = .ok (some f') ∧ ∃ us, D3 A k b.kids c = .ok us) → ∃ us, Dv A k bs c = .ok us
 | [], h => ⟨[], Dk _ _⟩
 | b :: bs, h => by
  obtain ⟨us, hu⟩ := B4y (bs := bs) fun x hx => h x (List.mem_cons_of_mem _ hx)
  rcases h b List.mem_cons_self with h1 | ⟨f', h1, ks, h2⟩
  ·exact ⟨us, by rw [Dc, h1]; simp only [Ao.bind]; exact hu⟩
  ·exact ⟨.mk f' ks :: us, by rw [Dc, h1]; simp only [Ao.bind]; rw [h2]; simp only; rw [hu]⟩
theorem D6n {t : T} {c : C} {o : T ⊕ (Int × List Cl)} (h1 : A.own c t.kind t.n t.name t.r = .ok o) (h2 : ∀ b, b ∈ t.sys → ∃ f', A.An c b.An = .ok f') (h3 : ∀ p, p ∈ parts t → ∃ c' u, A.S6 c p.2 = .ok c' ∧ C1 A p.1 c' = .ok u) : ∃ u, C1 A t c = .ok u := by
 rw [H8, h1]
 cases o with
 | inl u => exact ⟨u, rfl⟩
 | inr p =>
  simp only [Ao.bind]
  obtain ⟨ks, hk⟩ := B4w (A := A) (k := t.kind) (c := c) (ts := t.kids) (i := 0) (fun j hj => by
   obtain ⟨c', u, h4, h5⟩ := h3 _ (List.mem_of_getElem? (Eg t j hj))
   exact ⟨c', u, by rw [Nat.zero_add]; exact h4, h5⟩)
  obtain ⟨ss, hs⟩ := B4y (A := A) (k := t.kind) (c := c) (bs := t.sys) (fun b hb => by
   obtain ⟨f', hf⟩ := h2 b hb
   cases f' with
   | none => exact .inl hf
   | some f' =>
    refine .inr ⟨f', hf, B4u fun j hj => ?_⟩
    obtain ⟨s, hs, e⟩ := Y2 (d := Bp) hb
    obtain ⟨c', u, h4, h5⟩ := h3 _ (List.mem_of_getElem? (Et t s j hs (by rw [e]; exact hj)))
    rw [e] at h5
    exact ⟨c', u, h4, h5⟩)
  exact ⟨_, by rw [hk]; simp only; rw [hs]⟩
theorem Dn {α β : Type} {x : Ao α} {k : α → Ao β} {e : Int} (h : x.bind k = .bad e) : x = .bad e ∨ ∃ a, x = .ok a ∧ k a = .bad e := by
 cases x with
 | ok a => exact .inr ⟨a, rfl, h⟩
 | bad e' => injection h with h; subst h; exact .inl rfl
theorem A7t {k : Int} {c : C} {e : Int} : ∀ {ts : List T} {i : Nat}, Du A k i ts c = .bad e → ∃ j, j < ts.length ∧ (A.S6 c (binds k ((i + j : Nat) : Int)) = .bad e ∨ ∃ c', A.S6 c (binds k ((i + j : Nat) : Int)) = .ok c' ∧ C1 A (ts.getD j t0) c' = .bad e)
 | [], i, h => by rw [Dj] at h; cases h
 | t :: ts, i, h => by
  rw [Db] at h
  rcases Dn h with h | ⟨c', h1, h⟩
  ·exact ⟨0, by simp, .inl (by simpa using h)⟩
  ·rcases Dn h with h | ⟨t', h2, h⟩
   ·exact ⟨0, by simp, .inr ⟨c', by simpa using h1, by simpa using h⟩⟩
   ·rcases Dn h with h | ⟨ts', h3, h⟩
    ·obtain ⟨j, hj, h4⟩ := A7t h
     refine ⟨j + 1, by simpa using hj, ?_⟩
     rw [List.getD_cons_succ, show i + (j + 1) = i + 1 + j by omega]; exact h4
    ·cases h
theorem A7q {k : Int} {c : C} {e : Int} : ∀ {ts : List T}, D3 A k ts c = .bad e → ∃ j, j < ts.length ∧ (A.S6 c (0, more k) = .bad e ∨ ∃ c', A.S6 c (0, more k) = .ok c' ∧ C1 A (ts.getD j t0) c' = .bad e)
 | [], h => by rw [Di] at h; cases h
 | t :: ts, h => by
  rw [Da] at h
  rcases Dn h with h | ⟨c', h1, h⟩
  ·exact ⟨0, by simp, .inl h⟩
  ·rcases Dn h with h | ⟨t', h2, h⟩
   ·exact ⟨0, by simp, .inr ⟨c', h1, by simpa using h⟩⟩
   ·rcases Dn h with h | ⟨ts', h3, h⟩
    ·obtain ⟨j, hj, h4⟩ := A7q h
     exact ⟨j + 1, by simpa using hj, by rw [List.getD_cons_succ]; exact h4⟩
    ·cases h
theorem Yy {k : Int} {c : C} {e : Int} : ∀ {bs : List Br}, Dv A k bs c = .bad e → ∃ b, b ∈ bs ∧ (A.An c b.An = .bad e ∨ D3 A k b.kids c = .bad e)
 | [], h => by rw [Dk] at h; cases h
 | b :: bs, h => by
  rw [Dc] at h
  rcases Dn h with h | ⟨o, h1, h⟩
  ·exact ⟨b, List.mem_cons_self, .inl h⟩
  ·cases o with
   | none => obtain ⟨x, hx, h⟩ := Yy h; exact ⟨x, List.mem_cons_of_mem _ hx, h⟩
   | some f' =>
    rcases Dn h with h | ⟨ks, h2, h⟩
    ·exact ⟨b, List.mem_cons_self, .inr h⟩
    ·rcases Dn h with h | ⟨us, h3, h⟩
     ·obtain ⟨x, hx, h⟩ := Yy h; exact ⟨x, List.mem_cons_of_mem _ hx, h⟩
     ·cases h
theorem Xc {t : T} {c : C} {e : Int} (h : C1 A t c = .bad e) : A.own c t.kind t.n t.name t.r = .bad e ∨ (∃ b, b ∈ t.sys ∧ A.An c b.An = .bad e) ∨ ∃ p, p ∈ parts t ∧ (A.S6 c p.2 = .bad e ∨ ∃ c', A.S6 c p.2 = .ok c' ∧ C1 A p.1 c' = .bad e) := by
 rw [H8] at h
 rcases Dn h with h | ⟨o, h1, h⟩
 ·exact .inl h
 ·cases o with
  | inl u => cases h
  | inr p =>
   rcases Dn h with h | ⟨ks, h2, h⟩
   ·obtain ⟨j, hj, h3⟩ := A7t h
    rw [Nat.zero_add] at h3
    exact .inr (.inr ⟨_, List.mem_of_getElem? (Eg t j hj), h3⟩)
   ·rcases Dn h with h | ⟨ss, h3, h⟩
    ·obtain ⟨b, hb, h4⟩ := Yy h
     rcases h4 with h4 | h4
     ·exact .inr (.inl ⟨b, hb, h4⟩)
     ·obtain ⟨j, hj, h5⟩ := A7q h4
      obtain ⟨s, hs, e2⟩ := Y2 (d := Bp) hb
      refine .inr (.inr ⟨_, List.mem_of_getElem? (Et t s j hs (by rw [e2]; exact hj)), ?_⟩)
      rw [e2]; exact h5
    ·cases h
end
theorem C8u {l : List Cl} {i : Nat} : (E5 l).testBit i = true ↔ i < 24 ∧ ∃ c, c ∈ l ∧ (c.pos ||| c.neg).testBit i = true := by
 unfold E5
 rw [Eh, Bool.and_eq_true, decide_eq_true_eq, B7x (fun c : Cl => c.pos ||| c.neg)]
 simp
theorem A6w {s : Nat} {f b : Int} (h : (Ak s f b).1 = 0) (i : Nat) (hi : (Ak s f b).2.testBit i = true) : ∃ j, j < 24 ∧ s.testBit j = true ∧ (((j : Int) < f ∧ i = j) ∨ (f ≤ (j : Int) ∨ 24 ≤ j) ∧ (i : Int) = j + b) := by
 obtain ⟨h0, h1, h2⟩ := Md h i
 rw [h2, Bool.or_eq_true, Bool.and_eq_true, Bool.and_eq_true, decide_eq_true_eq, decide_eq_true_eq, Eh, Eh, Bool.and_eq_true, Bool.and_eq_true, decide_eq_true_eq, decide_eq_true_eq] at hi
 rcases hi with ⟨h3, h4, h5⟩ | ⟨h3, h4, h5⟩
 ·exact ⟨i, h4, h5, .inl ⟨by omega, rfl⟩⟩
 ·exact ⟨i - b.toNat, h4, h5, .inr ⟨by omega, by omega⟩⟩
theorem B8c {t : T} (h : Dy t) : A9 t.r = true := by
 obtain ⟨_, _, _, _, h13, h14, h0⟩ := (N7.mp h).1
 by_cases h1 : t.kind = 13 ∨ t.kind = 21 ∨ t.kind = 26
 ·exact h13 h1
 ·by_cases h2 : t.kind = 14
  ·have := h14 h2
   unfold A2 at this
   rw [Bool.and_eq_true] at this
   exact this.1
  ·rw [h0 A3]; exact Wc
theorem Uc {t : T} (h : Dy t) {b : Br} (hb : b ∈ t.sys) : A2 b.An = true := (Zr.mp (N7.mp h).2.2.2.2 b hb).2.1
theorem E8 {t : T} (h : Dy t) {p : Part} (hp : p ∈ parts t) : Dy p.1 := (A5h.mp h).2 p hp
theorem B8e {l : List Cl} (h : A2 l = true) : A9 l = true := by
 unfold A2 at h
 rw [Bool.and_eq_true] at h
 exact h.1
theorem D5s {t : T} {v d : Int} (hv : Au v) (h : Ro t) : Ro (Cm t v d).2 := by
 refine guard_okT' (fun ha u hu => ?_)
 simp only [List.all_cons, List.all_nil, Bool.and_true, Bool.and_eq_true, decide_eq_true_eq] at ha
 obtain ⟨x, hx, hu⟩ := Ao.Ab hu
 exact A4o A3 (A4o ⟨ha.1, C4u hv ha.1 ha.2.2⟩ h hx) hu
def Mr : List T → Nat
 | [] => 0
 | t :: ts => size t + Mr ts
def V7 : List Br → Nat
 | [] => 0
 | b :: bs => Mr b.kids + V7 bs
theorem foldl_add {α : Type} (f : α → Nat) : ∀ (l : List α) (a : Nat), l.foldl (fun a p => a + f p) a = a + l.foldl (fun a p => a + f p) 0
 | [], a => rfl
 | x :: l, a => by rw [List.foldl_cons, List.foldl_cons, foldl_add f l (a + f x), foldl_add f l (0 + f x)]; omega
theorem Rs (t : T) : size t = 1 + Mr t.kids + V7 t.sys := by
 have hk : ∀ (k : Int) (ts : List T) (i : Nat), (F5 k i ts).foldl (fun a p => a + size p.1) 0 = Mr ts := by
  intro k ts
  induction ts with
  | nil => intro i; rfl
  | cons t ts ih => intro i; rw [F5, List.foldl_cons, foldl_add, ih, Mr]; simp only; omega
 have hm : ∀ (ts : List T) (b : Int × Int), (ts.map fun k => ((k, b.1, b.2) : Part)).foldl (fun a p => a + size p.1) 0 = Mr ts := by
  intro ts b
  induction ts with
  | nil => rfl
  | cons t ts ih => rw [List.map_cons, List.foldl_cons, foldl_add, ih, Mr]; simp only; omega
 have hs : ∀ (k : Int) (bs : List Br), (Dz k bs).foldl (fun a p => a + size p.1) 0 = V7 bs := by
  intro k bs
  induction bs with
  | nil => rfl
  | cons b bs ih => rw [Dz, List.foldl_append, foldl_add, ih, hm b.kids (0, more k), V7]
 rw [size_eq, parts, List.foldl_append, foldl_add, hs, foldl_add, hk]
section
variable {t u : T} {n : Int}
end
theorem Jv {s : Nat} {f b : Int} (h : (Ak s f b).1 = 0) (i : Nat) : (Ak s f b).2.testBit i = true ↔ ∃ j, j < 24 ∧ s.testBit j = true ∧ (((j : Int) < f ∧ i = j) ∨ (f ≤ (j : Int) ∧ (i : Int) = j + b)) := by
 obtain ⟨h0, h1, h2⟩ := Md h i
 constructor
 ·intro hi
  obtain ⟨j, h3, h4, h5⟩ := A6w h i hi
  exact ⟨j, h3, h4, by omega⟩
 ·rintro ⟨j, h3, h4, h5⟩
  rw [h2, Bool.or_eq_true, Bool.and_eq_true, Bool.and_eq_true, decide_eq_true_eq, decide_eq_true_eq, Eh, Eh, Bool.and_eq_true, Bool.and_eq_true, decide_eq_true_eq, decide_eq_true_eq]
  rcases h5 with ⟨h5, rfl⟩ | ⟨h5, h6⟩
  ·exact .inl ⟨by omega, h3, h4⟩
  ·refine .inr ⟨by omega, ?_⟩
   rw [show i - b.toNat = j by omega]
   exact ⟨h3, h4⟩
theorem A9e {s : Nat} {f b : Int} (hs : s < 16777216) (h0 : 0 ≤ f) (hb : 0 ≤ b) (h : b = 0 ∨ 24 ≤ f) : Ak s f b = (0, s) := by
 have hs24 : s &&& 16777215 = s := by rw [A1i]; exact Nat.mod_eq_of_lt hs
 have h1 : (Ak s f b).1 = 0 := by
  unfold Ak
  rw [if_neg A3]
  split
  ·rfl
  ·rename_i h2
   rw [if_neg]
   rintro (h3 | h3)
   ·rcases h with h | h
    ·omega
    ·refine h2 ?_
     refine Nat.eq_of_testBit_eq fun i => ?_
     rw [Gh, Mc, Nat.zero_testBit, Eh, show min f.toNat 24 = 24 by omega]
     by_cases hi : i < 24 <;> simp [hi]
   ·rcases h with h | h
    ·subst h
     have := B0n (q := s &&& 16777215) (m := 2 ^ min f.toNat 24 - 1) (Hx s)
     simp at h3
     omega
    ·refine h2 ?_
     refine Nat.eq_of_testBit_eq fun i => ?_
     rw [Gh, Mc, Nat.zero_testBit, Eh, show min f.toNat 24 = 24 by omega]
     by_cases hi : i < 24 <;> simp [hi]
 refine Prod.ext h1 ?_
 refine Nat.eq_of_testBit_eq fun i => ?_
 rw [Bool.eq_iff_iff, Jv h1]
 have hlt : ∀ j, s.testBit j = true → j < 24 := fun j hj => by
  refine Nat.lt_of_not_le fun hge => ?_
  rw [Nat.testBit_lt_two_pow (Nat.lt_of_lt_of_le hs (Nat.pow_le_pow_right (n := 2) (i := 24) A3 hge))] at hj
  cases hj
 constructor
 ·rintro ⟨j, h2, h3, h4⟩
  rw [show i = j by omega]; exact h3
 ·intro h2
  exact ⟨i, hlt i h2, h2, by have := hlt i h2; omega⟩
theorem B3j {l : List Cl} (h : A9 l = true) : (∀ c, c ∈ l → Av c = true) ∧ apart l = true := by
 unfold A9 at h
 simp only [Bool.and_eq_true, List.all_eq_true] at h
 exact ⟨h.1.1.1, h.1.2⟩
theorem D6 {c : Cl} : Av c = true ↔ c.pos < 16777216 ∧ c.neg < 16777216 := by unfold Av; rw [Bool.and_eq_true, decide_eq_true_eq, decide_eq_true_eq]
section
variable {CA CB CC CD : Type} {A : Tr CA} {B : Tr CB} {C : Tr CC} {D : Tr CD} (R : CA → CB → CC → CD → Prop)
variable {R}
end
theorem Rr : ∀ {l m : List Int}, (l.Pairwise fun a b => a < b) → (m.Pairwise fun a b => a < b) → (∀ x, x ∈ l ↔ x ∈ m) → l = m
 | [], [], _, _, _ => rfl
 | [], b :: m, _, _, h => by have := (h b).mpr List.mem_cons_self; cases this
 | a :: l, [], _, _, h => by have := (h a).mp List.mem_cons_self; cases this
 | a :: l, b :: m, hl, hm, h => by
  obtain ⟨l1, l2⟩ := List.pairwise_cons.mp hl
  obtain ⟨m1, m2⟩ := List.pairwise_cons.mp hm
  have hab : a = b := by
   rcases List.mem_cons.mp ((h a).mp List.mem_cons_self) with h1 | h1
   ·exact h1
   ·rcases List.mem_cons.mp ((h b).mpr List.mem_cons_self) with h2 | h2
    ·exact h2.symm
    ·have := l1 b h2; have := m1 a h1; omega
  subst hab
  have : l = m := Rr l2 m2 fun x => by
   constructor
   ·intro hx
    rcases List.mem_cons.mp ((h x).mp (List.mem_cons_of_mem _ hx)) with h1 | h1
    ·subst h1; have := l1 x hx; omega
    ·exact h1
   ·intro hx
    rcases List.mem_cons.mp ((h x).mpr (List.mem_cons_of_mem _ hx)) with h1 | h1
    ·subst h1; have := m1 x hx; omega
    ·exact h1
  rw [this]
def shI (f b x : Int) : Int := if x < f then x else x + b
theorem D3u {s : Nat} {f b x : Int} (h0 : 0 ≤ f) (hb : 0 ≤ b) (hx : x ∈ A4 s) (hf : f ≤ x) (h : 24 ≤ x + b) : Ak s f b = (10, 0) := by
 obtain ⟨x0, x1, x2⟩ := F4.mp hx
 have hbit : (Bn (s &&& 16777215) (2 ^ (min f.toNat 24) - 1)).testBit x.toNat = true := by
  rw [Gh, Mc, Eh, x2, decide_eq_true A3, decide_eq_true A3, decide_eq_false A3]; rfl
 have hge := Nat.ge_two_pow_of_testBit hbit
 unfold Ak
 rw [if_neg A3, if_neg (fun h1 => by rw [h1, Nat.zero_testBit] at hbit; cases hbit), if_pos]
 by_cases h24 : 24 ≤ b
 ·exact .inl h24
 ·right
  have h1 : 2 ^ x.toNat * 2 ^ b.toNat ≤ Bn (s &&& 16777215) (2 ^ (min f.toNat 24) - 1) * 2 ^ b.toNat := Nat.mul_le_mul_right _ hge
  rw [← Nat.pow_add] at h1
  have h2 : 2 ^ 24 ≤ 2 ^ (x.toNat + b.toNat) := Nat.pow_le_pow_right A3 A3
  have h3 : (2 : Nat) ^ 24 = 16777216 := by decide
  omega
theorem C7z {s : Nat} {f b : Int} (h0 : 0 ≤ f) (hb : 0 ≤ b) (h : ∀ x, x ∈ A4 s → x < f ∨ x + b < 24) : Ak s f b = (0, Hz ((A4 s).map (shI f b))) := by
 have h1 : (Ak s f b).1 = 0 := by
  unfold Ak
  rw [if_neg A3]
  split
  ·rfl
  ·rename_i h2
   rw [if_neg]
   have hbits : ∀ i, (Bn (s &&& 16777215) (2 ^ (min f.toNat 24) - 1)).testBit i = true → (i : Int) + b < 24 := fun i hi => by
    rw [Gh, Mc, Eh] at hi
    simp only [Bool.and_eq_true, decide_eq_true_eq, Bool.not_eq_true', decide_eq_false_iff_not] at hi
    have hm : (i : Int) ∈ A4 s := F4.mpr ⟨by omega, by omega, by simpa using hi.1.2.2⟩
    rcases h _ hm with h3 | h3 <;> omega
   obtain ⟨i, hi⟩ : ∃ i, (Bn (s &&& 16777215) (2 ^ (min f.toNat 24) - 1)).testBit i = true := by
    refine Classical.byContradiction fun hn => h2 (Nat.eq_of_testBit_eq fun i => ?_)
    rw [Nat.zero_testBit]
    cases hh : (Bn (s &&& 16777215) (2 ^ (min f.toNat 24) - 1)).testBit i with
    | false => rfl
    | true => exact absurd ⟨i, hh⟩ hn
   have hb24 := hbits i hi
   have hlt : Bn (s &&& 16777215) (2 ^ (min f.toNat 24) - 1) < 2 ^ (24 - b.toNat) := Nat.lt_pow_two_of_testBit _ fun j hj => by
    cases hh : (Bn (s &&& 16777215) (2 ^ (min f.toNat 24) - 1)).testBit j with
    | false => rfl
    | true => have := hbits j hh; omega
   rintro (h3 | h3)
   ·omega
   ·have h4 : Bn (s &&& 16777215) (2 ^ (min f.toNat 24) - 1) * 2 ^ b.toNat < 2 ^ (24 - b.toNat) * 2 ^ b.toNat := Nat.mul_lt_mul_of_pos_right hlt (Nat.pow_pos A3)
    rw [← Nat.pow_add, show 24 - b.toNat + b.toNat = 24 by omega] at h4
    have h5 : (2 : Nat) ^ 24 = 16777216 := by decide
    omega
 refine Prod.ext h1 ?_
 have hlt := Jk s f b
 have e1 : (Ak s f b).2 = Hz (A4 (Ak s f b).2) := by rw [Vt, A1i]; exact (Nat.mod_eq_of_lt hlt).symm
 rw [e1]
 show Hz _ = Hz _
 congr 1
 refine Rr (Qt _ _) ?_ fun x => ?_
 ·rw [List.pairwise_map]
  refine (Qt s 24).imp fun {a c} hac => ?_
  unfold shI
  split <;> split <;> omega
 ·rw [List.mem_map]
  constructor
  ·intro hx
   obtain ⟨x0, x1, x2⟩ := F4.mp hx
   obtain ⟨j, h2, h3, h4⟩ := (Jv h1 x.toNat).mp x2
   refine ⟨(j : Int), F4.mpr ⟨by omega, by omega, by simpa using h3⟩, ?_⟩
   unfold shI
   split <;> omega
  ·rintro ⟨y, hy, rfl⟩
   obtain ⟨y0, y1, y2⟩ := F4.mp hy
   have hsh : 0 ≤ shI f b y ∧ shI f b y < 24 := by
    unfold shI
    rcases h y hy with h2 | h2 <;> split <;> omega
   refine F4.mpr ⟨hsh.1, hsh.2, (Jv h1 _).mpr ⟨y.toNat, by omega, y2, ?_⟩⟩
   unfold shI at hsh ⊢
   split <;> omega
theorem S2 (s : Nat) : (A4 s).Pairwise fun a b => a < b := by
 unfold A4 C4
 rw [List.pairwise_map]
 refine List.Pairwise.filter _ ?_
 exact List.pairwise_lt_range.imp fun h => by omega
theorem C8d (s : Nat) : A4 (s &&& 16777215) = A4 s := by
 refine Rr (S2 _) (S2 _) fun x => ?_
 rw [F4, F4, Eh]
 constructor
 ·rintro ⟨h1, h2, h3⟩
  rw [Bool.and_eq_true] at h3
  exact ⟨h1, h2, h3.2⟩
 ·rintro ⟨h1, h2, h3⟩
  exact ⟨h1, h2, by rw [h3, decide_eq_true A3]; rfl⟩
theorem C8b {r : Nat} (h0 : ¬ r = 0) (h : r < 4294967296) : ∃ m, r = 2 ^ Lib.ctz 32 r * (2 * m + 1) ∧ Lib.ctz 32 r < 32 := by
 obtain ⟨m, h1, h2⟩ := Lib.ctzFrom_spec 32 r A3 h
 have e : Lib.ctz 32 r = Lib.ctzFrom 32 r := by unfold Lib.ctz; rw [if_neg h0]
 rw [e]
 exact ⟨m, h1, h2⟩
theorem D8h {r k m i : Nat} (h : r = 2 ^ k * (2 * m + 1)) : (r &&& (r - 1)).testBit i = (r.testBit i && decide (i ≠ k)) ∧ r.testBit k = true ∧ (i < k → r.testBit i = false) := by
 have hp : 0 < 2 ^ k := Nat.pow_pos K1
 have e1 : r = 2 ^ (k + 1) * m + 2 ^ k := by rw [h, Nat.pow_succ, Nat.mul_add, Nat.mul_assoc]; simp
 have e2 : r - 1 = 2 ^ (k + 1) * m + (2 ^ k - 1) := by omega
 have hb1 : 2 ^ k < 2 ^ (k + 1) := by rw [Nat.pow_succ]; omega
 have hb2 : 2 ^ k - 1 < 2 ^ (k + 1) := by omega
 have t1 : ∀ j, r.testBit j = if j < k + 1 then (2 ^ k).testBit j else m.testBit (j - (k + 1)) := fun j => by rw [e1]; exact Nat.testBit_two_pow_mul_add m hb1 j
 have t2 : ∀ j, (r - 1).testBit j = if j < k + 1 then (2 ^ k - 1).testBit j else m.testBit (j - (k + 1)) := fun j => by rw [e2]; exact Nat.testBit_two_pow_mul_add m hb2 j
 refine ⟨?_, by rw [t1, if_pos A3, Nat.testBit_two_pow_self], fun hi => by rw [t1, if_pos A3, Nat.testBit_two_pow_of_ne A3]⟩
 rw [Nat.testBit_and, t1, t2]
 by_cases hi : i < k + 1
 ·rw [if_pos hi, if_pos hi, Nat.testBit_two_pow, Nat.testBit_two_pow_sub_one]
  by_cases hk : k = i
  ·subst hk; simp
  ·simp [hk]
 ·rw [if_neg hi, if_neg hi]
  have : i ≠ k := by omega
  simp [this]
theorem A9f {r : Nat} (h0 : ¬ r = 0) (h : r < 16777216) : Lib.ctz 32 r < 24 ∧ A4 r = (Lib.ctz 32 r : Int) :: A4 (r &&& (r - 1)) := by
 obtain ⟨m, h1, h2⟩ := C8b h0 A3
 have hb := fun i => D8h (i := i) h1
 have hk : Lib.ctz 32 r < 24 := Decidable.byContradiction fun hn => by
  have h3 := Nat.ge_two_pow_of_testBit (hb 0).2.1
  have h4 : 2 ^ 24 ≤ 2 ^ Lib.ctz 32 r := Nat.pow_le_pow_right K1 A3
  omega
 refine ⟨hk, Rr (S2 _) (List.pairwise_cons.mpr ⟨fun x hx => ?_, S2 _⟩) fun x => ?_⟩
 ·obtain ⟨x0, x1, x2⟩ := F4.mp hx
  rw [(hb x.toNat).1, Bool.and_eq_true, decide_eq_true_eq] at x2
  have : ¬ x.toNat < Lib.ctz 32 r := fun hlt => by have := (hb x.toNat).2.2 hlt; rw [x2.1] at this; cases this
  omega
 ·rw [List.mem_cons, F4, F4, (hb x.toNat).1, Bool.and_eq_true, decide_eq_true_eq]
  constructor
  ·rintro ⟨x0, x1, x2⟩
   by_cases hx : x = (Lib.ctz 32 r : Int)
   ·exact .inl hx
   ·exact .inr ⟨x0, x1, x2, by omega⟩
  ·rintro (rfl | ⟨x0, x1, x2, _⟩)
   ·exact ⟨by omega, by omega, by rw [Int.toNat_natCast]; exact (hb 0).2.1⟩
   ·exact ⟨x0, x1, x2⟩
theorem E2w {r : Nat} (h0 : ¬ r = 0) : r &&& (r - 1) < r := Nat.lt_of_le_of_lt Nat.and_le_right A3
def E1u : ByteArray := ⟨#[0, 1, 1, 2, 1, 2, 2, 3, 1, 2, 2, 3, 2, 3, 3, 4, 1, 2, 2, 3, 2, 3, 3, 4, 2, 3, 3, 4, 3, 4, 4, 5, 1, 2, 2, 3, 2, 3, 3, 4, 2, 3, 3, 4, 3, 4, 4, 5, 2, 3, 3, 4, 3, 4, 4, 5, 3, 4, 4, 5, 4, 5, 5, 6, 1, 2, 2, 3, 2, 3, 3, 4, 2, 3, 3, 4, 3, 4, 4, 5, 2, 3, 3, 4, 3, 4, 4, 5, 3, 4, 4, 5, 4, 5, 5, 6, 2, 3, 3, 4, 3, 4, 4, 5, 3, 4, 4, 5, 4, 5, 5, 6, 3, 4, 4, 5, 4, 5, 5, 6, 4, 5, 5, 6, 5, 6, 6, 7, 1, 2, 2, 3, 2, 3, 3, 4, 2, 3, 3, 4, 3, 4, 4, 5, 2, 3, 3, 4, 3, 4, 4, 5, 3, 4, 4, 5, 4, 5, 5, 6, 2, 3, 3, 4, 3, 4, 4, 5, 3, 4, 4, 5, 4, 5, 5, 6, 3, 4, 4, 5, 4, 5, 5, 6, 4, 5, 5, 6, 5, 6, 6, 7, 2, 3, 3, 4, 3, 4, 4, 5, 3, 4, 4, 5, 4, 5, 5, 6, 3, 4, 4, 5, 4, 5, 5, 6, 4, 5, 5, 6, 5, 6, 6, 7, 3, 4, 4, 5, 4, 5, 5, 6, 4, 5, 5, 6, 5, 6, 6, 7, 4, 5, 5, 6, 5, 6, 6, 7, 5, 6, 6, 7, 6, 7, 7, 8]⟩
def pop8 (j : Nat) : Nat := j % 2 + j / 2 % 2 + j / 4 % 2 + j / 8 % 2 + j / 16 % 2 + j / 32 % 2 + j / 64 % 2 + j / 128 % 2
theorem A3k : ∀ j, j < 256 → E1u[j]? = some (UInt8.ofNat (pop8 j)) ∧ pop8 j ≤ 8 := by decide +kernel
def Sp (s : Nat) : Nat := pop8 (s / 16777216) + pop8 (s / 65536 &&& 255) + pop8 (s / 256 &&& 255) + pop8 (s &&& 255)
theorem C7c : ∀ k, k < 24 → Sp (2 ^ k) = 1 := by decide +kernel
theorem C0j : Sp 0 = 0 := by decide
theorem B3y (s : Nat) : s &&& 255 < 256 := Nat.lt_of_le_of_lt Nat.and_le_right K1
section
variable {tn : Bool} {pn : Nat} {P : Program} [Tab P] {f : FuncId} {R : Ending → World → Prop} {B : D5} {n : Fz} {K : List Item} {ops : Array Oper} {i : Nat} {l fin : List Nat} {σ : Nat → Value} {Γ : List Fact} {Ms Ms2 : List Bq}
variable {dst : Option Tmp} {op : Op} {ty : TypeId} {pos : String} {after : Array Edge} {v : Value} {x y z : Operand}
theorem B6k {t : TypeId} {s : ByteArray} {j : Nat} (hu : Tab.und P t = some .string) (hx : ev σ x = .string s) (hs : s = E1u) (hy : ev σ y = .int .u32 (j : Int)) (hj : j < 256) : Cq P σ (.index t x y) ty (.int .u8 (pop8 j : Nat)) := fun w => by
 subst hs
 have h := (A3k j hj)
 have e : ((UInt8.ofNat (pop8 j)).toNat : Int) = (pop8 j : Nat) := by
  rw [UInt8.toNat_ofNat']
  have := h.2
  omega
 simp [Ct, execOp, hx, hy, Instr.index, asIntOf, E9 hu, h.1]
 have := h.2
 omega
theorem D2q {t t' : TypeId} {a b : Nat} (hx : ev σ x = .int .u8 (a : Nat)) (hy : ev σ y = .int .u8 (b : Nat)) (h : a + b < 256) : Cq P σ (.binOp .add t x y t') ty (.int .u8 ((a + b : Nat) : Int)) :=
 E6 hx hy (fun w => Ce w) (fun w => by
  have e : IntKind.u8.wrap ((a : Int) + (b : Int)) = ((a + b : Nat) : Int) := by simp [IntKind.wrap, IntKind.signed, IntKind.bits]; omega
  show Result.ok (Value.int .u8 (IntKind.u8.wrap ((a : Int) + (b : Int)))) w = _
  rw [e])
theorem C7i {s d : TypeId} {ds : TypeDesc} {a : Nat} (hs : Tab.und P s = some ds) (hd : Tab.und P d = some (.int .i64)) (hx : ev σ x = .int .u8 (a : Nat)) (ha : a < 256) : Cq P σ (.convert s d x) ty (.int .i64 (a : Int)) := by
 have h := Kt hs hd hx (ty := ty)
 rwa [show IntKind.i64.wrap (a : Int) = (a : Int) by rw [IntKind.wrap_i64]; omega] at h
theorem A1r {t : TypeId} {s : ByteArray} {j : Nat} (k_ : NV tn pn P f R B n K ops fin l (Ay σ dst (.int .u8 (pop8 j : Nat))) Γ Ms) (hx : ev σ x = .string s := by exact A7) (hy : ev σ y = .int .u32 (j : Int) := by exact A7) (hs : s = E1u := by rfl) (hu : Tab.und P t = some .string := by rfl) (hj : j < 256 := by first | omega | exact B3y _) (hd : Aj n dst = true := by rfl) : Lq tn pn P f R B n K ops fin i l dst (.index t x y) ty σ Γ Ms := Ed (B6k hu hx hs hy hj) hd k_
theorem B1c {t t' : TypeId} {a b : Nat} (k_ : NV tn pn P f R B n K ops fin l (Ay σ dst (.int .u8 ((a + b : Nat) : Int))) Γ Ms) (hx : ev σ x = .int .u8 (a : Nat) := by exact A7) (hy : ev σ y = .int .u8 (b : Nat) := by exact A7) (h : a + b < 256 := by omega) (hd : Aj n dst = true := by rfl) : Lq tn pn P f R B n K ops fin i l dst (.binOp .add t x y t') ty σ Γ Ms := Ed (D2q hx hy h) hd k_
theorem D0d {s d : TypeId} {ds : TypeDesc} {a : Nat} (k_ : NV tn pn P f R B n K ops fin l (Ay σ dst (.int .i64 (a : Int))) Γ Ms) (hx : ev σ x = .int .u8 (a : Nat) := by exact A7) (hs : Tab.und P s = some ds := by rfl) (hd' : Tab.und P d = some (.int .i64) := by rfl) (ha : a < 256 := by omega) (hd : Aj n dst = true := by rfl) : Lq tn pn P f R B n K ops fin i l dst (.convert s d x) ty σ Γ Ms := Ed (C7i hs hd' hx ha) hd k_
end
theorem A4v {l : List Cl} (h : (Am l).1 ≠ 0) : (Am l).2 = [] := by
 unfold Am at h ⊢
 split
 ·rfl
 ·rename_i h1
  rw [if_neg h1] at h
  split
  ·rfl
  ·rename_i h2
   rw [if_neg h2] at h
   exact absurd rfl h
theorem A6x {l : List Cl} {f b : Int} (hl : A9 l = true) (h0 : 0 ≤ f) (hb : 0 ≤ b) (h : b = 0 ∨ 24 ≤ f) : Aa l f b = (0, l) := by
 obtain ⟨hr, _⟩ := B3j hl
 have key : ∀ c, c ∈ l → B4 c f b = (0, c) := fun c hc => by
  obtain ⟨h2, h3⟩ := D6.mp (hr c hc)
  unfold B4
  rw [if_neg (by rw [hr c hc]; simp), A9e h2 h0 hb h, A9e h3 h0 hb h]
  simp
 have hf : Ge (fun c => B4 c f b) l = (0, l) := by
  unfold Ge
  rw [List.find?_eq_none.mpr (fun c hc => by show ¬ decide ((B4 c f b).1 ≠ 0) = true; rw [key c hc]; simp)]
  simp only
  congr 1
  conv => rhs; rw [← List.map_id l]
  exact List.map_congr_left (fun c hc => by rw [key c hc]; rfl)
 unfold Aa
 rw [if_neg (by rw [hl]; simp), hf, if_neg Ec]
 have := S5 l
 rw [hl, Bool.and_eq_true, decide_eq_true_eq, decide_eq_true_eq] at this
 exact Prod.ext this.1 this.2
theorem Og {l : List Cl} {f b : Int} (hl : A9 l = true) (h0 : 0 ≤ f) (hb : 0 ≤ b) : C5 b l f = if (Aa l f b).1 = 0 then .ok (Aa l f b).2 else .bad (Aa l f b).1 := by
 unfold C5
 by_cases h : b = 0 ∨ 24 ≤ f
 ·rw [if_pos h, A6x hl h0 hb h]; rfl
 ·rw [if_neg h]
theorem Ri {l : List Cl} {f b : Int} : 0 ≤ (Aa l f b).1 := by
 have hl : ∀ m : List Cl, 0 ≤ (Am m).1 := fun m => by rcases Ha m with h | h | h <;> omega
 unfold Aa
 split
 ·exact (show (0 : Int) ≤ 2 by omega)
 ·split
  ·unfold Ge
   split
   ·rename_i c _
    rcases A5s c f b with h | h | h <;> (simp only; omega)
   ·exact Int.le_refl 0
  ·exact hl _
theorem Ub {l : List Cl} {f b : Int} : (Aa l f b).1 ≤ 10 := by
 have hl : ∀ m : List Cl, (Am m).1 ≤ 10 := fun m => by rcases Ha m with h | h | h <;> omega
 unfold Aa
 split
 ·exact (show (2 : Int) ≤ 10 by omega)
 ·split
  ·unfold Ge
   split
   ·rename_i c _
    rcases A5s c f b with h | h | h <;> (simp only; omega)
   ·exact (show (0 : Int) ≤ 10 by omega)
  ·exact hl _
def J3 (e : Int) : T := .mk (-e) 0 ⟨#[]⟩ [] [] []
def Gf (vb db : Int) (t : T) (v d : Int) : T := match C1 (Bj vb db) t (v, d) with
 | .ok u => u
 | .bad e => J3 e
theorem A4q {vb db : Int} {t u : T} {v d : Int} (h : C1 (Bj vb db) t (v, d) = .ok u) : Gf vb db t v d = u := by unfold Gf; rw [h]
theorem Lc {vb db : Int} {t : T} {v d e : Int} (h : C1 (Bj vb db) t (v, d) = .bad e) : Gf vb db t v d = J3 e := by unfold Gf; rw [h]
theorem A0m {l : List Cl} {f b e : Int} (h : C5 b l f = .bad e) : 0 < e := by
 unfold C5 at h
 split at h
 ·cases h
 ·split at h
  ·cases h
  ·rename_i h2
   injection h with h
   have := Ri (l := l) (f := f) (b := b)
   omega
theorem B2t {vb db : Int} : ∀ (t : T) {c : Int × Int} {e : Int}, C1 (Bj vb db) t c = .bad e → 0 < e := T.ind fun t ih c e h => by
 rcases Xc h with h1 | ⟨b, _, h1⟩ | ⟨p, hp, h1 | ⟨c', _, h2⟩⟩
 ·rw [Ti] at h1
  rcases Dn h1 with h2 | ⟨g, _, h2⟩
  ·exact A0m h2
  ·split at h2
   ·injection h2 with h2; omega
   ·cases h2
 ·rw [Qu] at h1
  rcases Dn h1 with h2 | ⟨g, _, h2⟩
  ·exact A0m h2
  ·cases h2
 ·cases h1
 ·exact ih p hp h2
theorem Li {t : T} (h : Dy t) : 0 ≤ t.kind := by
 have h2 := (N7.mp h).2.1
 unfold Ch at h2
 repeat' split at h2
 all_goals omega
theorem C8e {vb db : Int} {t u : T} {c : Int × Int} (h : C1 (Bj vb db) t c = .ok u) : u.kind = t.kind := by
 rcases B4t h with h1 | ⟨p, _, h1, _⟩
 ·exact absurd h1 S3
 ·exact h1.1
theorem Ld {vb db : Int} {t : T} {v d : Int} (hf : Dy t) : (C1 (Bj vb db) t (v, d) = .ok (Gf vb db t v d) ∧ 0 ≤ (Gf vb db t v d).kind) ∨ ∃ e, 0 < e ∧ C1 (Bj vb db) t (v, d) = .bad e ∧ Gf vb db t v d = J3 e := by
 cases h : C1 (Bj vb db) t (v, d) with
 | ok u =>
  rw [A4q h]
  exact .inl ⟨rfl, by rw [C8e h]; exact Li hf⟩
 | bad e => exact .inr ⟨e, B2t t h, rfl, Lc h⟩
theorem Iq {e : Int} (h : 0 < e) : (J3 e).kind < 0 := by show -e < 0; omega
abbrev EL : Type := Int × List Cl
def Ee (i : Int) : Nat := if 0 ≤ i ∧ i < 24 then 2 ^ i.toNat else 0
def Jy (s : Nat) (i : Int) : Nat := if 0 ≤ i ∧ i < 24 then (s &&& 16777215) ||| 2 ^ i.toNat else s &&& 16777215
def Al (s : Nat) (i : Int) : Nat := if 0 ≤ i ∧ i < 24 then Bn (s &&& 16777215) (2 ^ i.toNat) else s &&& 16777215
theorem Mw (i : Int) : Jy 0 i = Ee i := by unfold Jy Ee; split <;> simp
theorem Kn (i : Int) : Ee i < 16777216 := by
 unfold Ee
 split
 ·exact Nat.pow_lt_pow_right (n := 24) (a := 2) K1 A3
 ·decide
theorem A2h (s : Nat) (i : Int) : Jy s i < 16777216 := by
 unfold Jy
 split
 ·exact Nat.or_lt_two_pow (n := 24) (by have := Hx s; omega) (Nat.pow_lt_pow_right (n := 24) (a := 2) K1 A3)
 ·exact Hx s
theorem G0 (s : Nat) (i : Int) : Al s i < 16777216 := by
 unfold Al
 split
 ·rw [show (16777216 : Nat) = 2 ^ 24 from rfl]
  exact Nat.lt_pow_two_of_testBit _ fun j hj => by
   rw [Gh, Eh, decide_eq_false (show ¬ j < 24 by omega)]; simp
 ·exact Hx s
theorem D4r (s : Nat) (i : Int) : ((decide (0 ≤ i) && decide (i < 24)) && decide (((s / 2 ^ (min i.toNat 32) &&& 1 : Nat) : Int) = 1)) = C8 s i := by
 rw [Qb, Nat.and_one_is_mod]
 by_cases h : 0 ≤ i ∧ i < 24
 ·rw [show min i.toNat 32 = i.toNat by omega]
  congr 1
  exact decide_eq_decide.mpr A3
 ·have : (decide (0 ≤ i) && decide (i < 24)) = false := by simp; omega
  rw [this]; rfl
def F0 (i : Int) : Bool := decide (0 ≤ i) && decide (i < 24)
theorem C3v {i : Int} (h : F0 i = true) : Sp (Ee i &&& 16777215) = 1 := by
 have h1 : 0 ≤ i ∧ i < 24 := by unfold F0 at h; simpa using h
 have h2 := Kn i
 rw [A1i, Nat.mod_eq_of_lt A3]
 unfold Ee
 rw [if_pos h1]
 exact C7c _ A3
theorem B6d {i : Int} (h : F0 i = false) : Sp (Ee i &&& 16777215) = 0 := by
 have h1 : ¬ (0 ≤ i ∧ i < 24) := by unfold F0 at h; simp at h; omega
 unfold Ee
 rw [if_neg h1]
 exact C0j
theorem C3u (i : Int) : decide (((Sp (Ee i &&& 16777215) : Nat) : Int) = 1) = F0 i := by
 cases h : F0 i
 ·rw [B6d h]; rfl
 ·rw [C3v h]; rfl
theorem B6e (i : Int) : decide (((Sp (Ee i &&& 16777215) : Nat) : Int) = 0) = !F0 i := by
 cases h : F0 i
 ·rw [B6d h]; rfl
 ·rw [C3v h]; rfl
def Ix (x : EL) (k : List Cl → EL) : EL := if x.1 ≠ 0 then (x.1, []) else k x.2
theorem Cg {x : EL} {k : List Cl → EL} (h : x.1 ≠ 0) : Ix x k = (x.1, []) := if_pos h
theorem Cf {x : EL} {k : List Cl → EL} (h : x.1 = 0) : Ix x k = k x.2 := if_neg (by simp [h])
def D7 (g : List Cl → Cl → EL) : List Cl → List Cl → EL
 | h, [] => (0, h)
 | h, c :: cs => Ix (g h c) fun h' => D7 g h' cs
theorem A5f {g : List Cl → Cl → EL} : ∀ {l m h h' : List Cl}, D7 g h l = (0, h') → D7 g h (l ++ m) = D7 g h' m
 | [], m, h, h', e => by
  rw [D7, Prod.mk.injEq] at e
  rw [List.nil_append, e.2]
 | d :: l, m, h, h', e => by
  rw [D7] at e
  by_cases h0 : (g h d).1 = 0
  ·rw [Cf h0] at e
   rw [List.cons_append, D7, Cf h0]
   exact A5f e
  ·rw [Cg h0, Prod.mk.injEq] at e
   exact absurd e.1 h0
theorem Pm {g : List Cl → Cl → EL} {l h h' : List Cl} {i : Nat} (hi : i < l.length) (e : D7 g h (l.take i) = (0, h')) (h0 : (g h' (l.getD i A6)).1 = 0) : D7 g h (l.take (i + 1)) = (0, (g h' (l.getD i A6)).2) := by
 rw [Af (d := A6) hi, A5f e, D7, Cf h0, D7]
theorem Hs {g : List Cl → Cl → EL} {l h h' : List Cl} {i : Nat} (hi : i < l.length) (e : D7 g h (l.take i) = (0, h')) (h0 : (g h' (l.getD i A6)).1 ≠ 0) : D7 g h l = ((g h' (l.getD i A6)).1, []) := by
 have e2 : l = l.take i ++ l.getD i A6 :: l.drop (i + 1) := by rw [Gd (d := A6) hi, List.getElem_cons_drop, List.take_append_drop]
 rw [e2, A5f e, ← e2, D7, Cg h0]
theorem Zp {g : List Cl → Cl → EL} {l h h' : List Cl} {i : Nat} (hi : i = l.length) (e : D7 g h (l.take i) = (0, h')) : D7 g h l = (0, h') := by
 rw [hi, List.take_length] at e
 exact e
def Fk (f g : List Cl) : EL := Am (f ++ g)
def Ij (f g : List Cl) : List Cl := f.flatMap fun a => g.map fun b => Dr a b
def I5 (f g : List Cl) : EL := Am (Ij f g)
def A1l (c : Cl) : List Cl := ((A4 c.pos).map fun i => (⟨0, Ee i⟩ : Cl)) ++ ((A4 c.neg).map fun i => (⟨Ee i, 0⟩ : Cl))
def Rb (c : Cl) : EL := Am (A1l c)
def Dh (h : List Cl) (c : Cl) : EL := Ix (Rb c) fun o => I5 h o
def Kg (f : List Cl) : EL := D7 Dh [A6] f
def Dl (f : List Cl) : EL := if A9 f then Kg f else (2, [])
def Ac (c : Cl) (i : Int) : Cl := ⟨Al c.pos i, Al c.neg i⟩
def E7 (i : Int) (r : List Cl) (c : Cl) : EL := if C8 c.pos i then I5 [Ac c i] r else (0, [Ac c i])
def Hn (i : Int) (r : List Cl) (c : Cl) (g : List Cl) : EL := if C8 c.neg i then Ix (Kg r) fun s => I5 g s else (0, g)
def Ca (i : Int) (r h : List Cl) (c : Cl) : EL := Ix (E7 i r c) fun g => Ix (Hn i r c g) fun g => Fk h g
theorem Xq {i : Int} {r h : List Cl} {c : Cl} {P : EL} (hP : E7 i r c = P) (h0 : P.1 ≠ 0) : Ca i r h c = (P.1, []) := by unfold Ca; rw [hP]; exact Cg h0
theorem Js {i : Int} {r h : List Cl} {c : Cl} {P N : EL} (hP : E7 i r c = P) (h0 : P.1 = 0) (hN : Hn i r c P.2 = N) (h1 : N.1 ≠ 0) : Ca i r h c = (N.1, []) := by unfold Ca; rw [hP, Cf h0, hN]; exact Cg h1
theorem L9 {i : Int} {r h : List Cl} {c : Cl} {P N : EL} (hP : E7 i r c = P) (h0 : P.1 = 0) (hN : Hn i r c P.2 = N) (h1 : N.1 = 0) : Ca i r h c = Fk h N.2 := by unfold Ca; rw [hP, Cf h0, hN]; exact Cf h1
theorem A3j {i : Int} {r : List Cl} {c : Cl} {g : List Cl} {s : EL} (h : C8 c.neg i = true) (hs : s = Kg r) (h0 : s.1 ≠ 0) : Hn i r c g = (s.1, []) := by unfold Hn; rw [if_pos h, ← hs]; exact Cg h0
theorem Ru {i : Int} {r : List Cl} {c : Cl} {g : List Cl} {s m : EL} (h : C8 c.neg i = true) (hs : s = Kg r) (h0 : s.1 = 0) (hm : m = I5 g s.2) : Hn i r c g = m := by unfold Hn; rw [if_pos h, ← hs, hm]; exact Cf h0
theorem A8n {i : Int} {r : List Cl} {c : Cl} {g : List Cl} (h : C8 c.neg i = false) : Hn i r c g = (0, g) := by unfold Hn; rw [if_neg (by simp [h])]
def Bb (f : List Cl) (i : Int) (r : List Cl) : EL := if (A9 f && A9 r) = false then (2, []) else if F0 i = false then (2, []) else D7 (Ca i r) [] f
def F6 (l : List Cl) : List Cl := l.filter fun c => !Ew c
def Mk (f : List Cl) : EL := if A9 f then Am (F6 f) else (2, [])
def Bh (r : List Cl) : EL := Ix (Dl r) Mk
def Jz (f g : List Cl) : EL := Am (f.flatMap fun a => F6 (g.map fun b => Dr a b))
def Cp (i : Int) (r : List Cl) (c : Cl) : EL := if C8 c.pos i then Ix (Mk r) fun x => Jz [Ac c i] x else if C8 c.neg i then Ix (Bh r) fun x => Jz [Ac c i] x else (0, [Ac c i])
def Cd (i : Int) (r h : List Cl) (c : Cl) : EL := Ix (Cp i r c) fun g => Fk h g
theorem Lj {i : Int} {r h : List Cl} {c : Cl} {P : EL} (hP : Cp i r c = P) (h0 : P.1 = 0) : Cd i r h c = Fk h P.2 := by unfold Cd; rw [hP]; exact Cf h0
theorem Gg {i : Int} {r h : List Cl} {c : Cl} {P : EL} (hP : Cp i r c = P) (h0 : P.1 ≠ 0) : Cd i r h c = (P.1, []) := by unfold Cd; rw [hP]; exact Cg h0
theorem B3g {i : Int} {r : List Cl} {c : Cl} {q m : EL} (h : C8 c.pos i = true) (hq : q = Mk r) (h0 : q.1 = 0) (hm : m = Jz [Ac c i] q.2) : Cp i r c = m := by unfold Cp; rw [if_pos h, ← hq, hm]; exact Cf h0
theorem A7a {i : Int} {r : List Cl} {c : Cl} {q : EL} (h : C8 c.pos i = true) (hq : q = Mk r) (h0 : q.1 ≠ 0) : Cp i r c = (q.1, []) := by unfold Cp; rw [if_pos h, ← hq]; exact Cg h0
theorem B3h {i : Int} {r : List Cl} {c : Cl} {q m : EL} (h1 : C8 c.pos i = false) (h : C8 c.neg i = true) (hq : q = Bh r) (h0 : q.1 = 0) (hm : m = Jz [Ac c i] q.2) : Cp i r c = m := by unfold Cp; rw [if_neg (by simp [h1]), if_pos h, ← hq, hm]; exact Cf h0
theorem A7b {i : Int} {r : List Cl} {c : Cl} {q : EL} (h1 : C8 c.pos i = false) (h : C8 c.neg i = true) (hq : q = Bh r) (h0 : q.1 ≠ 0) : Cp i r c = (q.1, []) := by unfold Cp; rw [if_neg (by simp [h1]), if_pos h, ← hq]; exact Cg h0
theorem B8f {i : Int} {r : List Cl} {c : Cl} (h1 : C8 c.pos i = false) (h : C8 c.neg i = false) : Cp i r c = (0, [Ac c i]) := by unfold Cp; rw [if_neg (by simp [h1]), if_neg (by simp [h])]
def B2 (f : List Cl) (i : Int) (r : List Cl) : EL := if (A2 f && F0 i && A9 r) = false then (2, []) else D7 (Cd i r) [] f
def single (c : Cl) : Bool := Av c && !Ew c
def Bo (f g : List Cl) : EL := if (A2 f && A2 g) = false then (2, []) else Fk f g
abbrev Sr (x : EL) : Prop := B9 x.2
theorem C6w {l m : List Cl} (h : B9 l) (hs : ∀ c, c ∈ m → c ∈ l) (hl : m.length ≤ l.length) : B9 m := ⟨fun c hc => h.1 c (hs c hc), by have := h.2; omega⟩
theorem Ow {l : List Cl} (h : ∀ c, c ∈ l → u32 c) : Sr (Am l) := A9i h
theorem Ke {x : EL} {k : List Cl → EL} (h : x.1 = 0 → Sr (k x.2)) : Sr (Ix x k) := by
 by_cases h0 : x.1 = 0
 ·rw [Cf h0]; exact h h0
 ·rw [Cg h0]; exact Fl
theorem Xw {g : List Cl → Cl → EL} : ∀ {l h : List Cl}, (∀ h c, c ∈ l → B9 h → Sr (g h c)) → B9 h → Sr (D7 g h l)
 | [], h, _, h2 => h2
 | c :: l, h, h1, h2 => by
  rw [D7]
  exact Ke fun _ => Xw (fun h' d hd => h1 h' d (List.mem_cons_of_mem _ hd)) (h1 h c List.mem_cons_self h2)
theorem Pa {a b : Cl} (h : u32 a) (h2 : u32 b) : u32 (Dr a b) := ⟨Nat.or_lt_two_pow (n := 32) h.1 h2.1, Nat.or_lt_two_pow (n := 32) h.2 h2.2⟩
theorem A2o {f g : List Cl} (h : ∀ c, c ∈ f → u32 c) (h2 : ∀ c, c ∈ g → u32 c) : ∀ c, c ∈ f ++ g → u32 c := fun c hc => (List.mem_append.mp hc).elim (h c) (h2 c)
theorem A7p {f g : List Cl} (h : ∀ c, c ∈ f → u32 c) (h2 : ∀ c, c ∈ g → u32 c) : ∀ c, c ∈ Ij f g → u32 c := fun c hc => by
 obtain ⟨a, ha, hc⟩ := List.mem_flatMap.mp hc
 obtain ⟨b, hb, rfl⟩ := List.mem_map.mp hc
 exact Pa (h a ha) (h2 b hb)
theorem C3b (c : Cl) : ∀ d, d ∈ A1l c → u32 d := fun d hd => by
 rcases List.mem_append.mp hd with hd | hd
 ·obtain ⟨i, _, rfl⟩ := List.mem_map.mp hd
  exact ⟨by show (0 : Nat) < _; decide, by have := Kn i; show Ee i < 4294967296; omega⟩
 ·obtain ⟨i, _, rfl⟩ := List.mem_map.mp hd
  exact ⟨by have := Kn i; show Ee i < 4294967296; omega, by show (0 : Nat) < _; decide⟩
theorem G1 (c : Cl) (i : Int) : u32 (Ac c i) := ⟨by have := G0 c.pos i; show Al c.pos i < _; omega, by have := G0 c.neg i; show Al c.neg i < _; omega⟩
theorem Ef {c : Cl} (h : u32 c) : B9 [c] := ⟨fun d hd => by rw [List.mem_singleton] at hd; subst hd; exact h, by unfold reach; simp⟩
theorem Nl {f g : List Cl} (h : B9 f) (h2 : B9 g) : Sr (Fk f g) := Ow (A2o h.1 h2.1)
theorem Ph {f g : List Cl} (h : B9 f) (h2 : B9 g) : Sr (I5 f g) := Ow (A7p h.1 h2.1)
theorem C4h (c : Cl) : Sr (Rb c) := Ow (C3b c)
theorem A0t {h : List Cl} {c : Cl} (hh : B9 h) : Sr (Dh h c) := Ke fun _ => Ph hh (C4h c)
theorem Vv : B9 [A6] := Ef ⟨by decide, by decide⟩
theorem U6 (f : List Cl) : Sr (Kg f) := Xw (fun h c _ hh => A0t hh) Vv
theorem B6q (f : List Cl) : Sr (Dl f) := by unfold Dl; split; exact U6 f; exact Fl
theorem C0t {i : Int} {r : List Cl} {c : Cl} (hr : B9 r) : Sr (E7 i r c) := by
 unfold E7
 split
 ·exact Ph (Ef (G1 c i)) hr
 ·exact Ef (G1 c i)
theorem C0u {i : Int} {r : List Cl} {c : Cl} {g : List Cl} (hg : B9 g) : Sr (Hn i r c g) := by
 unfold Hn
 split
 ·exact Ke fun _ => Ph hg (U6 r)
 ·exact hg
theorem A0s {i : Int} {r h : List Cl} {c : Cl} (hr : B9 r) (hh : B9 h) : Sr (Ca i r h c) := by
 unfold Ca
 refine Ke fun _ => Ke fun _ => Nl hh ?_
 have h1 : Sr (E7 i r c) := C0t hr
 exact C0u h1
theorem B6r {f r : List Cl} {i : Int} (hr : B9 r) : Sr (Bb f i r) := by
 unfold Bb
 split
 ·exact Fl
 ·split
  ·exact Fl
  ·exact Xw (fun h c _ hh => A0s hr hh) Fl
theorem Vw {l : List Cl} (h : B9 l) : B9 (F6 l) := C6w h (fun c hc => (List.mem_filter.mp hc).1) (List.length_filter_le _ _)
theorem A3y {f : List Cl} (h : B9 f) : Sr (Mk f) := by unfold Mk; split; exact Ow (Vw h).1; exact Fl
theorem Rx (r : List Cl) : Sr (Bh r) := Ke fun _ => A3y (B6q r)
theorem Ov {f g : List Cl} (h : B9 f) (h2 : B9 g) : Sr (Jz f g) := Ow fun c hc => by
 obtain ⟨a, ha, hc⟩ := List.mem_flatMap.mp hc
 obtain ⟨b, hb, rfl⟩ := List.mem_map.mp (List.mem_filter.mp hc).1
 exact Pa (h.1 a ha) (h2.1 b hb)
theorem B2o {i : Int} {r : List Cl} {c : Cl} (hr : B9 r) : Sr (Cp i r c) := by
 unfold Cp
 split
 ·exact Ke fun _ => Ov (Ef (G1 c i)) (A3y hr)
 ·split
  ·exact Ke fun _ => Ov (Ef (G1 c i)) (Rx r)
  ·exact Ef (G1 c i)
theorem B2n {i : Int} {r h : List Cl} {c : Cl} (hr : B9 r) (hh : B9 h) : Sr (Cd i r h c) := Ke fun _ => Nl hh (B2o hr)
theorem B6s {f r : List Cl} {i : Int} (hr : B9 r) : Sr (B2 f i r) := by
 unfold B2
 split
 ·exact Fl
 ·exact Xw (fun h c _ hh => B2n hr hh) Fl
abbrev A1m (x : EL) : Prop := x.2.length ≤ 64
theorem G8 (l : List Cl) : A1m (Am l) := by
 rcases Ha l with ⟨_, _, h, h2⟩ | h | h
 ·show (Am l).2.length ≤ 64; rw [h]; exact h2
 ·show (Am l).2.length ≤ 64; rw [A4v A3]; decide
 ·show (Am l).2.length ≤ 64; rw [A4v A3]; decide
theorem Tj {x : EL} {k : List Cl → EL} (h : x.1 = 0 → A1m (k x.2)) : A1m (Ix x k) := by
 by_cases h0 : x.1 = 0
 ·rw [Cf h0]; exact h h0
 ·rw [Cg h0]; show ([] : List Cl).length ≤ 64; decide
theorem B7j {g : List Cl → Cl → EL} : ∀ {l h : List Cl}, (∀ h c, c ∈ l → h.length ≤ 64 → A1m (g h c)) → h.length ≤ 64 → A1m (D7 g h l)
 | [], h, _, h2 => h2
 | c :: l, h, h1, h2 => by
  rw [D7]
  exact Tj fun _ => B7j (fun h' d hd => h1 h' d (List.mem_cons_of_mem _ hd)) (h1 h c List.mem_cons_self h2)
theorem A0y (h : List Cl) (c : Cl) : A1m (Dh h c) := Tj fun _ => G8 _
theorem C4x (f : List Cl) : A1m (Kg f) := B7j (fun h c _ _ => A0y h c) K1
theorem B7i (i : Int) (r h : List Cl) (c : Cl) : A1m (Ca i r h c) := Tj fun _ => Tj fun _ => G8 _
theorem D4a (f : List Cl) : A1m (Mk f) := by unfold Mk; split; exact G8 _; (show ([] : List Cl).length ≤ 64; decide)
theorem C1c (r : List Cl) : A1m (Bh r) := Tj fun _ => D4a _
theorem F8 {f : List Cl} (h : A9 f = true) : f.length ≤ 64 := by
 unfold A9 at h
 simp only [Bool.and_eq_true, decide_eq_true_eq] at h
 exact h.2
theorem D2w (c : Cl) : (A1l c).length ≤ 48 := by
 unfold A1l
 rw [List.length_append, List.length_map, List.length_map]
 have h1 : (A4 c.pos).length ≤ 24 := Hf _ _
 have h2 : (A4 c.neg).length ≤ 24 := Hf _ _
 omega
theorem Y4 {s i : Nat} (h : i < (A4 s).length) : 0 ≤ (A4 s).getD i 0 ∧ (A4 s).getD i 0 < 24 := by
 have h1 := N6 (Ag (d := (0 : Int)) h)
 exact ⟨h1.1, by have := h1.2; exact_mod_cast this⟩
theorem B7f {s i : Nat} (h : i < (A4 s).length) : Au ((A4 s).getD i 0) := by have := Y4 h; unfold Au; omega
theorem A9c (f g : List Cl) : (Ij f g).length = f.length * g.length := by
 unfold Ij
 induction f with
 | nil => simp
 | cons a f ih => rw [List.flatMap_cons, List.length_append, ih, List.length_map, List.length_cons, Nat.succ_mul]; omega
theorem C0y (f g : List Cl) (a : Cl) : Ij (f ++ [a]) g = Ij f g ++ g.map fun b => Dr a b := by unfold Ij; rw [List.flatMap_append]; simp
theorem C3 {ok : Nat → Prop} {l : List Cl} {a : SH} {w : World} (h : Mu ok l a w) : B9 l := ⟨h.2, h.1.2.1⟩
def A1o (i : Int) : EL := if F0 i then (0, [⟨Ee i, 0⟩]) else (2, [])
theorem St.D3w {B : D5} {Γ : List Fact} {Ms : List Bq} {w : World} {e : TypeId} {b : Nat} {l m : List Cl} {a a' : SH} (hs : St B Γ (Ae b [sl a l.length, sl a' m.length] e :: Ms) w) {hBp : Prop} (hB : hBp) (hF : CL l a ∈ Γ) (hG : CL m a' ∈ Γ) : St B (CCF [(l, a), (m, a')] (some ⟨b, 0, Option.none⟩, 2) :: Γ) Ms w := by
 have h1 := ((hs.Gq (sz := 1) (m := 2) rfl K1).C2o cpE).A6a (x := (l, a)) List.mem_cons_self (List.mem_cons_of_mem _ hF)
 have h2 := h1.A6a (x := (m, a')) List.mem_cons_self (List.mem_cons_of_mem _ (List.mem_cons_of_mem _ hG))
 exact (h2.Z6 (F := Qf) (E := cpE) (d := cp0) (bt := 24) (l := [(l, a), (m, a')]) (fun _ => rfl) hB List.mem_cons_self rfl rfl K1).less sx_
theorem St.D3x {B : D5} {Γ : List Fact} {Ms : List Bq} {w : World} {b : Nat} {e : TypeId} {cs : List Value} {c : Cl} (hs : St B Γ (Ae b cs e :: Ms) w) {hBp : Prop} (hB : hBp) (hc : cs = As c) (hu : u32 c) : St B (CL [c] (some ⟨b, 0, Option.none⟩, 1) :: Γ) Ms w :=
 (hs.Gq (sz := 2) (m := 1) (by rw [hc]; rfl) K1).Bt (l := [c]) hB (by rw [hc]; simp [Ad]) rfl (Ef hu).2 (Ef hu).1
theorem Spec.Vx {P : Program} {k : FuncId} {args : Array Value} {pre : List Fact} {e : TypeId} {r r' : EL} (he : r' = r) (h : Spec P k args pre [] (fun x : SH => .tuple #[sl x r.2.length, .int .i64 r.1]) (fun _ => []) (fun x => [Ar 2 e x r.2.length (Ad r.2)])) (hr : Sr r) :
  Spec P k args pre [] (fun x : SH => .tuple #[sl x r'.2.length, .int .i64 r'.1]) (fun x => [CL r'.2 x]) (fun _ => []) := by
 subst he
 exact fun ok w hok hst => (h ok w hok hst).mono fun e w' hh => by
  obtain ⟨x, he, hs⟩ := hh
  exact ⟨x, he, hs.Bt trivial rfl rfl hr.2 hr.1⟩
theorem Spec.R9 {P : Program} {k : FuncId} {args : Array Value} {pre : List Fact} {e : TypeId} {r r' : EL} (he : r' = r) (h : Spec P k args pre [] (fun x : SH => .tuple #[sl x r.2.length, .int .i64 r.1]) (fun _ => []) (fun x => [Ar 2 e x r.2.length (Ad r.2)])) :
  Spec P k args pre [] (fun x : SH => .tuple #[sl x r'.2.length, .int .i64 r'.1]) (fun _ => []) (fun x => [Ar 2 e x r'.2.length (Ad r'.2)]) := by
 subst he
 exact h
structure Dt where
 form : Int → List Cl → EL
 An : Int → List Cl → EL
def elR (x : EL) : Ao (List Cl) := if x.1 = 0 then .ok x.2 else .bad x.1
theorem C1t {x : EL} (h : x.1 = 0) : elR x = .ok x.2 := if_pos h
theorem C5g {x : EL} (h : x.1 ≠ 0) : elR x = .bad x.1 := if_neg h
theorem Wg {x : EL} {g : List Cl} : elR x = .ok g ↔ x = (0, g) := by
 unfold elR
 split
 ·rename_i h
  constructor
  ·intro h2; injection h2 with h2; exact Prod.ext h h2
  ·rintro rfl; rfl
 ·rename_i h
  constructor
  ·intro h2; cases h2
  ·rintro rfl; exact absurd rfl h
theorem A1c {x : EL} {e : Int} : elR x = .bad e ↔ x.1 = e ∧ e ≠ 0 := by
 unfold elR
 split
 ·rename_i h
  constructor
  ·intro h2; cases h2
  ·rintro ⟨h2, h3⟩; exact absurd (h2.symm.trans h) h3
 ·rename_i h
  constructor
  ·intro h2; injection h2 with h2; exact ⟨h2, h2 ▸ h⟩
  ·rintro ⟨h2, h3⟩; rw [h2]
def Dt.row (W : Dt) (k d : Int) (r : List Cl) : EL := if k = 14 then W.An d r else W.form d r
def Az (W : Dt) : Tr Int where
 own d k n _ r := (elR (W.row k d r)).bind fun g => .ok (.inr (n, g))
 An d f := (elR (W.An d f)).bind fun g => .ok (if g.length = 0 then none else some g)
 S6 d b := .ok (d + b.2)
theorem Fi {W : Dt} {d : Int} {b : Int × Int} : (Az W).S6 d b = .ok (d + b.2) := rfl
theorem I4 {W : Dt} {d k n : Int} {nm : ByteArray} {r : List Cl} (h : (W.row k d r).1 = 0) : (Az W).own d k n nm r = .ok (.inr (n, (W.row k d r).2)) := by
 show (elR _).bind _ = _; rw [C1t h]; rfl
theorem M5 {W : Dt} {d k n : Int} {nm : ByteArray} {r : List Cl} (h : (W.row k d r).1 ≠ 0) : (Az W).own d k n nm r = .bad (W.row k d r).1 := by
 show (elR _).bind _ = _; rw [C5g h]; rfl
theorem Xm {W : Dt} {d k n : Int} {nm : ByteArray} {r : List Cl} {p : Int × List Cl} : (Az W).own d k n nm r = .ok (.inr p) ↔ W.row k d r = (0, p.2) ∧ p.1 = n := by
 constructor
 ·intro h
  obtain ⟨g, hg, h2⟩ := Ao.Ab (x := elR (W.row k d r)) h
  injection h2 with h2; injection h2 with h2; subst h2
  exact ⟨Wg.mp hg, rfl⟩
 ·rintro ⟨h1, h2⟩
  rw [I4 (by rw [h1]), h1, ← h2]
theorem Of {W : Dt} {d k n : Int} {nm : ByteArray} {r : List Cl} {u : T} : (Az W).own d k n nm r ≠ .ok (.inl u) := by
 intro h
 obtain ⟨g, hg, h2⟩ := Ao.Ab (x := elR (W.row k d r)) h
 injection h2 with h2; cases h2
theorem R8 {W : Dt} {d k n e : Int} {nm : ByteArray} {r : List Cl} : (Az W).own d k n nm r = .bad e ↔ (W.row k d r).1 = e ∧ e ≠ 0 := by
 rw [← A1c]
 show (elR _).bind _ = _ ↔ _
 cases elR (W.row k d r) with
 | ok g => constructor <;> (intro h; cases h)
 | bad e' => exact Iff.intro (fun h => by injection h with h; rw [h]) (fun h => by injection h with h; rw [h]; rfl)
theorem Pf {W : Dt} {d : Int} {f : List Cl} (h : (W.An d f).1 = 0) (h2 : (W.An d f).2.length = 0) : (Az W).An d f = .ok none := by
 show (elR _).bind _ = _; rw [C1t h]; show Ao.ok (if _ then _ else _) = _; rw [if_pos h2]
theorem Pe {W : Dt} {d : Int} {f : List Cl} (h : (W.An d f).1 = 0) (h2 : (W.An d f).2.length ≠ 0) : (Az W).An d f = .ok (some (W.An d f).2) := by
 show (elR _).bind _ = _; rw [C1t h]; show Ao.ok (if _ then _ else _) = _; rw [if_neg h2]
theorem K9 {W : Dt} {d : Int} {f : List Cl} (h : (W.An d f).1 ≠ 0) : (Az W).An d f = .bad (W.An d f).1 := by
 show (elR _).bind _ = _; rw [C5g h]; rfl
theorem Ib {W : Dt} {d : Int} {f : List Cl} : (Az W).An d f = .ok none ↔ W.An d f = (0, []) := by
 constructor
 ·intro h
  obtain ⟨g, hg, h2⟩ := Ao.Ab (x := elR (W.An d f)) h
  injection h2 with h2
  rw [Wg.mp hg]
  split at h2
  ·rename_i h3; rw [List.eq_nil_of_length_eq_zero h3]
  ·cases h2
 ·intro h; exact Pf (by rw [h]) (by rw [h]; rfl)
theorem Eo {W : Dt} {d : Int} {f g : List Cl} : (Az W).An d f = .ok (some g) ↔ W.An d f = (0, g) ∧ g ≠ [] := by
 constructor
 ·intro h
  obtain ⟨g', hg, h2⟩ := Ao.Ab (x := elR (W.An d f)) h
  injection h2 with h2
  split at h2
  ·cases h2
  ·rename_i h3
   injection h2 with h2; subst h2
   exact ⟨Wg.mp hg, fun h => h3 (by rw [h]; rfl)⟩
 ·rintro ⟨h, h2⟩
  have h3 := Pe (W := W) (d := d) (f := f) (by rw [h]) (by rw [h]; intro h4; exact h2 (List.eq_nil_of_length_eq_zero h4))
  rw [h3, h]
theorem Q6 {W : Dt} {d e : Int} {f : List Cl} : (Az W).An d f = .bad e ↔ (W.An d f).1 = e ∧ e ≠ 0 := by
 rw [← A1c]
 show (elR _).bind _ = _ ↔ _
 cases elR (W.An d f) with
 | ok g => constructor <;> (intro h; cases h)
 | bad e' => exact Iff.intro (fun h => by injection h with h; rw [h]) (fun h => by injection h with h; rw [h]; rfl)
def G5 (g : Nat → T → Ao T) : Nat → List T → Ao (List T)
 | _, [] => .ok []
 | i, t :: ts => (g i t).bind fun t' => (G5 g (i + 1) ts).bind fun ts' => .ok (t' :: ts')
section
variable {g : Nat → T → Ao T}
theorem Wh : ∀ (i : Nat) (l : List T) (t : T), G5 g i (l ++ [t]) = (G5 g i l).bind fun l' => (g (i + l.length) t).bind fun t' => .ok (l' ++ [t'])
 | i, [], t => by
  simp only [List.nil_append, G5, Ao.bind, List.length_nil, Nat.add_zero]
 | i, a :: l, t => by
  simp only [List.cons_append, G5, Wh (i + 1) l t, List.length_cons]
  rw [show i + 1 + l.length = i + (l.length + 1) by omega]
  cases g i a with
  | bad e => rfl
  | ok a' =>
   simp only [Ao.bind]
   cases G5 g (i + 1) l with
   | bad e => rfl
   | ok l' =>
    simp only
    cases g (i + (l.length + 1)) t with
    | bad e => rfl
    | ok c2 => rfl
theorem B0a {e : Int} : ∀ {l m : List T} {i : Nat}, G5 g i l = .bad e → G5 g i (l ++ m) = .bad e
 | [], m, i, h => by rw [G5] at h; cases h
 | a :: l, m, i, h => by
  rw [List.cons_append, G5]
  rw [G5] at h
  cases h1 : g i a with
  | bad e' => rw [h1] at h; exact h
  | ok a' =>
   rw [h1] at h
   simp only [Ao.bind] at h ⊢
   cases h3 : G5 g (i + 1) l with
   | bad e' => rw [h3] at h; rw [B0a h3]; exact h
   | ok l' => rw [h3] at h; cases h
theorem B8g {l us : List T} {i : Nat} {u : T} (hi : i < l.length) (h : G5 g 0 (l.take i) = .ok us) (hu : g i (l.getD i t0) = .ok u) : G5 g 0 (l.take (i + 1)) = .ok (us ++ [u]) := by
 rw [Af (d := t0) hi, Wh, h]
 simp only [Ao.bind, List.length_take, Nat.zero_add, Nat.min_eq_left (Nat.le_of_lt hi)]
 rw [hu]
theorem B3l {l us : List T} {i : Nat} {e : Int} (hi : i < l.length) (h : G5 g 0 (l.take i) = .ok us) (hu : g i (l.getD i t0) = .bad e) : G5 g 0 l = .bad e := by
 have h1 : G5 g 0 (l.take (i + 1)) = .bad e := by
  rw [Af (d := t0) hi, Wh, h]
  simp only [Ao.bind, List.length_take, Nat.zero_add, Nat.min_eq_left (Nat.le_of_lt hi)]
  rw [hu]
 have h2 := B0a (m := l.drop (i + 1)) h1
 rwa [List.take_append_drop] at h2
theorem A9z : ∀ {l us : List T} {i : Nat}, G5 g i l = .ok us → us.length = l.length
 | [], us, i, h => by rw [G5] at h; injection h with h; subst h; rfl
 | a :: l, us, i, h => by
  rw [G5] at h
  obtain ⟨a', _, h⟩ := Ao.Ab h
  obtain ⟨l', h2, h⟩ := Ao.Ab h
  injection h with h; subst h
  simp [A9z h2]
theorem A9y {e : Int} : ∀ {l : List T} {i : Nat}, G5 g i l = .bad e → ∃ j t, t ∈ l ∧ g j t = .bad e
 | [], i, h => by rw [G5] at h; cases h
 | a :: l, i, h => by
  rw [G5] at h
  cases h1 : g i a with
  | bad e' => rw [h1] at h; injection h with h; subst h; exact ⟨i, a, List.mem_cons_self, h1⟩
  | ok a' =>
   rw [h1] at h
   simp only [Ao.bind] at h
   cases h3 : G5 g (i + 1) l with
   | bad e' => rw [h3] at h; injection h with h; subst h; obtain ⟨j, t, ht, hj⟩ := A9y h3; exact ⟨j, t, List.mem_cons_of_mem _ ht, hj⟩
   | ok l' => rw [h3] at h; cases h
end
theorem Yx {W : Dt} {k d : Int} : ∀ {i : Nat} {ts : List T}, Du (Az W) k i ts d = G5 (fun j t => C1 (Az W) t (d + (binds k j).2)) i ts
 | i, [] => by rw [Dj, G5]
 | i, t :: ts => by rw [Db, G5, Fi, Yx (i := i + 1) (ts := ts)]; rfl
theorem Yw {W : Dt} {k d : Int} : ∀ {i : Nat} {ts : List T}, D3 (Az W) k ts d = G5 (fun _ t => C1 (Az W) t (d + more k)) i ts
 | i, [] => by rw [Di, G5]
 | i, t :: ts => by rw [Da, G5, Fi, Yw (i := i + 1) (ts := ts)]; rfl
theorem Qn {C : Type} {A : Tr C} {k : Int} {c : C} {ss : List Br} {s : Nat} {bs : List Br} (hs : s < ss.length) (hb : Dv A k (ss.take s) c = .ok bs) (hf : A.An c (ss.getD s Bp).An = .ok none) : Dv A k (ss.take (s + 1)) c = .ok bs := by
 rw [Af (d := Bp) hs, Rq, hb]
 simp only [Ao.bind]
 rw [hf]
theorem A6n {C : Type} {A : Tr C} {t : T} {c : C} {e : Int} {p : Int × List Cl} (h : A.own c t.kind t.n t.name t.r = .ok (.inr p)) (hl : Du A t.kind 0 t.kids c = .bad e) : C1 A t c = .bad e := by
 rw [H8, h]; simp only [Ao.bind]; rw [hl]
def Sa (r : Ao (List T)) : Int × List T := match r with
 | .ok u => (0, u)
 | .bad e => (e, [])
theorem C9l {r : Ao T} (h : (I7 r).1 ≠ 0) : r = .bad (I7 r).1 := by
 cases r with
 | ok u => exact absurd rfl h
 | bad e => rfl
theorem D5t {r : Ao T} (hb : ∀ e, r = .bad e → e ≠ 0) (h : (I7 r).1 = 0) : r = .ok (I7 r).2 := by
 cases r with
 | ok u => rfl
 | bad e => exact absurd h (hb e rfl)
theorem A5y {r : Ao (List T)} (h : (Sa r).1 ≠ 0) : r = .bad (Sa r).1 := by
 cases r with
 | ok u => exact absurd rfl h
 | bad e => rfl
theorem B0l {r : Ao (List T)} (hb : ∀ e, r = .bad e → e ≠ 0) (h : (Sa r).1 = 0) : r = .ok (Sa r).2 := by
 cases r with
 | ok u => rfl
 | bad e => exact absurd h (hb e rfl)
theorem T6 {W : Dt} : ∀ (t : T) {d e : Int}, C1 (Az W) t d = .bad e → e ≠ 0 := T.ind fun t ih d e h => by
 rcases Xc h with h1 | ⟨b, _, h1⟩ | ⟨p, hp, h1 | ⟨c', _, h2⟩⟩
 ·exact (R8.mp h1).2
 ·exact (Q6.mp h1).2
 ·cases h1
 ·exact ih p hp h2
theorem Yh {W : Dt} {b : Nat → Int} {l : List T} {i : Nat} {e d : Int} (h : G5 (fun j t => C1 (Az W) t (d + b j)) i l = .bad e) : e ≠ 0 := by
 obtain ⟨j, t, _, h1⟩ := A9y h
 exact T6 t h1
abbrev Co (W : Dt) (t : T) (d : Int) : Int × T := I7 (C1 (Az W) t d)
abbrev A0f (W : Dt) (b : Nat → Int) (l : List T) (d : Int) : Int × List T := Sa (G5 (fun j t => C1 (Az W) t (d + b j)) 0 l)
def Cw (P : List Cl → Int → List Cl → EL) (i : Int) (r : List Cl) (d : Int) (f : List Cl) : EL := if C8 (E5 f) (i + d) = false then (0, f) else Ix (Aa r 0 d) fun s => P f (i + d) s
def Es (i : Int) (r : List Cl) : Dt := ⟨Cw Bb i r, Cw B2 i r⟩
def Nb (i : Int) (d : Int) (f : List Cl) : EL := Am (f.map fun c => ⟨Ev c.pos (i + d), Ev c.neg (i + d)⟩)
def Kh (i : Int) : Dt := ⟨Nb i, Nb i⟩
theorem A2p {f : List Cl} {j : Int} {c : Cl} (hc : c ∈ f.map fun c => (⟨Ev c.pos j, Ev c.neg j⟩ : Cl)) : u32 c := by
 obtain ⟨e, _, rfl⟩ := List.mem_map.mp hc
 exact ⟨by have := Nu e.pos j; show Ev _ _ < _; omega, by have := Nu e.neg j; show Ev _ _ < _; omega⟩
theorem B1o {t k : T} (h : k ∈ t.kids) : size k < size t := by obtain ⟨p, hp, e⟩ := Hg h; exact e ▸ Oe hp
theorem B1m {t k : T} {b : Br} (h : b ∈ t.sys) (h2 : k ∈ b.kids) : size k < size t := by obtain ⟨p, hp, e⟩ := He h h2; exact e ▸ Oe hp
theorem Spec.D9n {P : Program} {k : FuncId} {args : Array Value} {pre : List Fact} {Ms0 : List Bq} {y : Tys} {r r' : Int × T} (he : r' = r) (h : Spec P k args pre Ms0 (fun x : {h : HT // h.er = r.2} => .tuple #[.agg (tc r.2 x.1.vr x.1.vk x.1.vs).toArray, .int .i64 r.1]) (fun _ => []) (fun x => [Dm (Gj y x.1)])) :
  Spec P k args pre Ms0 (fun x : {h : HT // h.er = r'.2} => .tuple #[.agg (tc r'.2 x.1.vr x.1.vk x.1.vs).toArray, .int .i64 r'.1]) (fun _ => []) (fun x => [Dm (Gj y x.1)]) := by
 subst he
 exact h
theorem Spec.E0f {P : Program} {k : FuncId} {args : Array Value} {pre : List Fact} {Ms0 : List Bq} {y : Tys} {e : TypeId} {r r' : Int × List T} (he : r' = r) (h : Spec P k args pre Ms0 (fun x : {p : List HT × SH // p.1.map HT.er = r.2} => .tuple #[sl x.1.2 r.2.length, .int .i64 r.1]) (fun _ => []) (fun x => [Ar 6 e x.1.2 r.2.length (Bz (x.1.1.map HT.tp)), Dm (Fj y x.1.1)])) :
  Spec P k args pre Ms0 (fun x : {p : List HT × SH // p.1.map HT.er = r'.2} => .tuple #[sl x.1.2 r'.2.length, .int .i64 r'.1]) (fun _ => []) (fun x => [Ar 6 e x.1.2 r'.2.length (Bz (x.1.1.map HT.tp)), Dm (Fj y x.1.1)]) := by
 subst he
 exact h
section
variable {W : Dt}
mutual
theorem U0 : ∀ {t u : T} {d : Int}, C1 (Az W) t d = .ok u → size u ≤ size t
 | .mk k n nm r ks ss, u, d, hu => by
  rw [H8] at hu
  simp only [T.kind, T.n, T.name, T.r, T.kids, T.sys] at hu
  obtain ⟨o, h9, hu⟩ := Ao.Ab hu
  cases o with
  | inl v => exact absurd h9 Of
  | inr p =>
   obtain ⟨ks', h10, hu⟩ := Ao.Ab hu
   obtain ⟨ss', h11, hu⟩ := Ao.Ab hu
   injection hu with hu
   subst hu
   rw [Rs, Rs]
   simp only [T.kids, T.sys]
   have h1 := A2k h10
   have h2 := Vk h11
   omega
theorem A2k {k : Int} : ∀ {ts us : List T} {i : Nat} {d : Int}, Du (Az W) k i ts d = .ok us → Mr us ≤ Mr ts
 | [], us, i, d, hu => by rw [Dj] at hu; injection hu with hu; subst hu; exact Nat.le_refl _
 | t :: ts, us, i, d, hu => by
  rw [Db] at hu
  obtain ⟨c', _, hu⟩ := Ao.Ab hu
  obtain ⟨t', h2, hu⟩ := Ao.Ab hu
  obtain ⟨ts', h3, hu⟩ := Ao.Ab hu
  injection hu with hu
  subst hu
  have h4 := U0 h2
  have h5 := A2k h3
  simp only [Mr]
  omega
theorem A2j {k : Int} : ∀ {ts us : List T} {d : Int}, D3 (Az W) k ts d = .ok us → Mr us ≤ Mr ts
 | [], us, d, hu => by rw [Di] at hu; injection hu with hu; subst hu; exact Nat.le_refl _
 | t :: ts, us, d, hu => by
  rw [Da] at hu
  obtain ⟨c', _, hu⟩ := Ao.Ab hu
  obtain ⟨t', h2, hu⟩ := Ao.Ab hu
  obtain ⟨ts', h3, hu⟩ := Ao.Ab hu
  injection hu with hu
  subst hu
  have h4 := U0 h2
  have h5 := A2j h3
  simp only [Mr]
  omega
theorem Vk {k : Int} : ∀ {bs us : List Br} {d : Int}, Dv (Az W) k bs d = .ok us → V7 us ≤ V7 bs
 | [], us, d, hu => by rw [Dk] at hu; injection hu with hu; subst hu; exact Nat.le_refl _
 | .mk f ks :: bs, us, d, hu => by
  rw [Dc] at hu
  simp only [Br.An, Br.kids] at hu
  obtain ⟨o, h5, hu⟩ := Ao.Ab hu
  cases o with
  | none => have h6 := Vk hu; simp only [V7]; omega
  | some g =>
   obtain ⟨ks', h7, hu⟩ := Ao.Ab hu
   obtain ⟨bs', h8, hu⟩ := Ao.Ab hu
   injection hu with hu
   subst hu
   have h1 := A2j h7
   have h2 := Vk h8
   simp only [V7, Br.kids]
   omega
end
theorem D0b (hW : ∀ d f, B9 f → Sr (W.form d f) ∧ Sr (W.An d f)) {t u : T} {d : Int} (h : Ro t) (hu : C1 (Az W) t d = .ok u) : Ro u := by
 refine Xd (A := Az W) ?_ ?_ ?_ t d u h hu
 ·intro c k n nm r p _ hn hr ho
  obtain ⟨h1, h2⟩ := Xm.mp ho
  have h3 := hW c r hr
  have h4 : Sr (W.row k c r) := by unfold Dt.row; split; exact h3.2; exact h3.1
  unfold Sr at h4
  rw [h1] at h4
  exact ⟨by rw [h2]; exact hn, h4⟩
 ·intro c k n nm r u ho
  exact absurd ho Of
 ·intro c f f' hr ho
  obtain ⟨h1, _⟩ := Eo.mp ho
  have h3 := (hW c f hr).2
  unfold Sr at h3
  rw [h1] at h3
  exact h3
theorem D6s : size t0 = 1 := by decide
theorem A5x {t : T} {d : Int} : size (Co W t d).2 ≤ size t := by
 unfold Co
 cases h : C1 (Az W) t d with
 | ok u => exact U0 h
 | bad e => show size t0 ≤ size t; rw [D6s]; exact size_pos' t
theorem Rm (hW : ∀ d f, B9 f → Sr (W.form d f) ∧ Sr (W.An d f)) {t : T} {d : Int} (h : Ro t) : Ro (Co W t d).2 := by
 unfold Co
 cases hu : C1 (Az W) t d with
 | ok u => exact D0b hW h hu
 | bad e => exact Qr
end
theorem A3x {P : List Cl → Int → List Cl → EL} (hP : ∀ f i r, B9 f → B9 r → Sr (P f i r)) {i d : Int} {r f : List Cl} (hf : B9 f) : Sr (Cw P i r d f) := by
 unfold Cw
 split
 ·exact hf
 ·exact Ke fun _ => hP _ _ _ hf (Nt r 0 d)
theorem A1x (i : Int) (r : List Cl) : ∀ d f, B9 f → Sr ((Es i r).form d f) ∧ Sr ((Es i r).An d f) := fun d f hf =>
 ⟨A3x (fun f i r _ hr => B6r hr) hf, A3x (fun f i r _ hr => B6s hr) hf⟩
theorem B6t {i d : Int} {f : List Cl} (hf : B9 f) : Sr (Nb i d f) := Ow fun c hc => A2p hc
theorem D2z (i : Int) : ∀ d f, B9 f → Sr ((Kh i).form d f) ∧ Sr ((Kh i).An d f) := fun d f hf => ⟨B6t hf, B6t hf⟩
def Sl (x : Int × T) (k : T → Int × T) : Int × T := if x.1 ≠ 0 then (x.1, t0) else k x.2
theorem Io {x : Int × T} {k : T → Int × T} (h : x.1 ≠ 0) : Sl x k = (x.1, t0) := if_pos h
theorem Jc {x : Int × T} {k : T → Int × T} (h : x.1 = 0) : Sl x k = k x.2 := if_neg (by simp [h])
def Iv {α : Type} (g : α → T → Int × T) : List α → T → Int × T
 | [], t => (0, t)
 | a :: l, t => Sl (g a t) fun u => Iv g l u
section
variable {α : Type} {g : α → T → Int × T}
theorem A5d : ∀ {l m : List α} {t u : T}, Iv g l t = (0, u) → Iv g (l ++ m) t = Iv g m u
 | [], m, t, u, e => by
  rw [Iv, Prod.mk.injEq] at e
  rw [List.nil_append, e.2]
 | a :: l, m, t, u, e => by
  rw [Iv] at e
  by_cases h0 : (g a t).1 = 0
  ·rw [Jc h0] at e
   rw [List.cons_append, Iv, Jc h0]
   exact A5d e
  ·rw [Io h0, Prod.mk.injEq] at e
   exact absurd e.1 h0
theorem B7y {l : List α} {d : α} {t u : T} {i : Nat} (hi : i < l.length) (e : Iv g (l.take i) t = (0, u)) (h0 : (g (l.getD i d) u).1 = 0) : Iv g (l.take (i + 1)) t = (0, (g (l.getD i d) u).2) := by
 rw [Af (d := d) hi, A5d e, Iv, Jc h0, Iv]
theorem A9n {l : List α} {d : α} {t u : T} {i : Nat} (hi : i < l.length) (e : Iv g (l.take i) t = (0, u)) (h0 : (g (l.getD i d) u).1 ≠ 0) : Iv g l t = ((g (l.getD i d) u).1, t0) := by
 have e2 : l = l.take i ++ l.getD i d :: l.drop (i + 1) := by rw [Gd (d := d) hi, List.getElem_cons_drop, List.take_append_drop]
 rw [e2, A5d e, ← e2, Iv, Io h0]
theorem A9o {l : List α} {t u : T} {i : Nat} (hi : i = l.length) (e : Iv g (l.take i) t = (0, u)) : Iv g l t = (0, u) := by
 rw [hi, List.take_length] at e
 exact e
theorem Yc : ∀ {l : List α} {t : T}, (Iv g l t).1 ≠ 0 → (Iv g l t).2 = t0
 | [], t, h => absurd rfl h
 | a :: l, t, h => by
  rw [Iv] at h ⊢
  by_cases h1 : (g a t).1 = 0
  ·rw [Jc h1] at h ⊢; exact Yc h
  ·rw [Io h1]
theorem A5e {p : T → Prop} (h0 : p t0) (hg : ∀ a u, p u → p (g a u).2) : ∀ {l : List α} {t : T}, p t → p (Iv g l t).2
 | [], t, h => h
 | a :: l, t, h => by
  rw [Iv]
  by_cases h1 : (g a t).1 = 0
  ·rw [Jc h1]; exact A5e h0 hg (hg a t h)
  ·rw [Io h1]; exact h0
end
def D8 (t : T) (i : Int) (r : List Cl) : Int := if B5 t ≠ 0 then B5 t else if (F0 i && A9 r) = false then 2 else 0
def B7 (t : T) (i : Int) (r : List Cl) : Int × T := if D8 t i r ≠ 0 then (D8 t i r, t0) else if (Aa r i 1).1 ≠ 0 then ((Aa r i 1).1, t0) else Sl (Co (Es i (Aa r i 1).2) t 0) fun x => Co (Kh i) x 0
theorem Vj {t : T} {i : Int} {r : List Cl} (h : D8 t i r = 0) : B5 t = 0 ∧ (0 ≤ i ∧ i < 24) ∧ A9 r = true := by
 unfold D8 at h
 split at h
 ·rename_i h1; exact absurd h h1
 ·rename_i h1
  split at h
  ·cases h
  ·rename_i h2
   simp only [Bool.not_eq_false, Bool.and_eq_true] at h2
   refine ⟨Decidable.not_not.mp h1, ?_, h2.2⟩
   have h3 := h2.1
   unfold F0 at h3
   simpa using h3
def Fq (r : List Cl) (l : List Int) (t : T) : Int × T := Iv (fun i u => Co (Es i r) u 0) l t
abbrev EP : Type := Nat × List Cl × SH
def Qc (p : EP) : List Value := [.int .u32 (p.1 : Int), sl p.2.2 p.2.1.length]
abbrev epE (p : EP) : Fact := CL p.2.1 p.2.2
def Ml : EP := (0, [], none, 0)
abbrev ENF (l : List EP) (a : SH) : Fact := A7f 2 32 Qc epE Ml l a
def D5g (l : List EP) (t : T) : Int × T := Iv (fun (p : EP) u => Fq p.2.1 (A4 p.1) u) l t
def B0 (t : T) (c : Cl) : Int × T := if B5 t ≠ 0 then (B5 t, t0) else if single c = false then (2, t0) else Sl (Fq [A6] (A4 c.pos) t) fun u => Fq [] (A4 c.neg) u
theorem A9v {c : Cl} {a : SH} {t : T} : D5g [(c.pos, [A6], a), (c.neg, [], none, 0)] t = Sl (Fq [A6] (A4 c.pos) t) fun u => Fq [] (A4 c.neg) u := by
 unfold D5g
 simp only [Iv]
 congr 1
 funext u
 by_cases h : (Fq [] (A4 c.neg) u).1 = 0
 ·rw [Jc h]; exact Prod.ext h.symm rfl
 ·rw [Io h]
  unfold Fq at h ⊢
  refine Prod.ext rfl ?_
  show t0 = _
  exact (Yc h).symm
theorem A8l {r : List Cl} {l : List Int} {t : T} (h : Ro t) : Ro (Fq r l t).2 := A5e Qr (fun i u hu => Rm (A1x i r) hu) h
section
variable {P : Program} [Tab P] {f : FuncId} {R : Ending → World → Prop} {B : D5} {n : Fz} {K : List Item} {ops : Array Oper} {l : List Nat} {σ : Nat → Value} {Γ : List Fact} {Ms : List Bq} {dst : Option Tmp} {ty : TypeId} {x : Operand}
theorem E2m {t : TypeId} {l' : List (Nat × Nat)} {bt bk o i' : Nat} {a : SH} {zv : Value} {ls : List EP} (k_ : Ep P f R B n K ops l (Ay σ dst (.agg (Qc (ls.getD i' Ml)).toArray)) Γ Ms) (hF : ENF ls a ∈ Γ := by repeat (first | exact List.mem_cons_self | apply List.mem_cons_of_mem))
  (hx : ev σ x = .pointer (some ⟨bk, o + i' * 2, none⟩) := by exact A7) (ha : a.1 = some ⟨bk, o, none⟩ := by assumption) (hu : Tab.lay P t = some l' := by rfl) (hi : Tab.inf P t = some (2, bt, zv) := by rfl) (hlt : i' < ls.length := by first | omega | (simp; omega)) (hd : Aj n dst = true := by rfl) : Ff P f R B n K ops l (Ct dst (.load t x) ty) σ Γ Ms :=
 Iu (D8j (F := Qc) (fun _ => rfl) hx hF ha hu hi hlt) hd k_
end
theorem Spec.A5q {P : Program} {k : FuncId} {args : Array Value} {pre L : List Fact} {G : Fact} {Ms0 : List Bq} {X : Type} {val : X → Value} {N : X → List Fact} {Ms1 : X → List Bq} (hp : ∀ F, F ∈ pre → F ∈ G :: L) (h : Spec P k args pre Ms0 val N Ms1) : Spec P k args [Mv L, G] Ms0 val N Ms1 := fun ok w hok hs =>
 h ok w hok ⟨hs.chg, fun F hF => by
  rcases List.mem_cons.mp (hp F hF) with e | e
  ·subst e; exact hs.facts _ (List.mem_cons_of_mem _ List.mem_cons_self)
  ·exact hs.facts (Mv L) List.mem_cons_self F e, hs.res, hs.lt, hs.disj⟩
theorem Spec.C3a {P : Program} {k : FuncId} {args : Array Value} {pre L : List Fact} {G : Fact} {Ms0 : List Bq} {X : Type} {val : X → Value} {N : X → List Fact} {Ms1 : X → List Bq} (hL : ∀ F, F ∈ L → F ∈ pre) (hG : G ∈ pre) (h : Spec P k args [Mv L, G] Ms0 val N Ms1) : Spec P k args pre Ms0 val N Ms1 := fun ok w hok hs =>
 h ok w hok ⟨hs.chg, fun F hF => by
  rcases List.mem_cons.mp hF with e | e
  ·subst e; exact fun F' hF' => hs.facts F' (hL F' hF')
  ·rw [List.mem_singleton] at e; subst e; exact hs.facts _ hG, hs.res, hs.lt, hs.disj⟩
theorem St.E7j {B : D5} {Γ : List Fact} {Ms : List Bq} {w : World} {e : TypeId} {b : Nat} {p q : EP} (hs : St B Γ (Ae b (Qc p ++ Qc q) e :: Ms) w) {hBp : Prop} (hB : hBp) (hF : epE p ∈ Γ) (hG : epE q ∈ Γ) : St B (ENF [p, q] (some ⟨b, 0, Option.none⟩, 2) :: Γ) Ms w := by
 have h1 := ((hs.Gq (sz := 2) (m := 2) rfl K1).C2o epE).A6a (x := p) List.mem_cons_self (List.mem_cons_of_mem _ hF)
 have h2 := h1.A6a (x := q) List.mem_cons_self (List.mem_cons_of_mem _ (List.mem_cons_of_mem _ hG))
 exact (h2.Z6 (F := Qc) (E := epE) (d := Ml) (bt := 32) (l := [p, q]) (fun _ => rfl) hB List.mem_cons_self Ec rfl K1).less sx_
end Go.Hy
namespace Go.Hy
open Go Go.ChangeShapes Go.WideShapes Go.RowKit Go.Shelf Go.Proofs
theorem A1n {C : Checked} {os : Os} {f : FuncId} {fn : Func} {s : ChangeSpec} {conds : List PathCond} {ts : List TypeId} {tb : TypeId} {H : Type} {enc : TypeId × Value → H} {L : List (String × DataW Unit)}
  (own : ownKnob C.prog.godebug = none) (started : os.Started) (noInit : C.prog.inits.idxOf? f = none) (hfn : C.prog.funcs[f]? = some fn)
  (witness : ∃ (w : World) (tape : Tape) (i : Input), w.os = os ∧ (w.forCall tape i).Shaped C.prog ∧ i.vars = [] ∧ Input.okWide C.prog (w.forCall tape i) .any w.heap.size f i ∧
   ((s.pre enc C.prog fn conds false (w.forCall tape i).memory i.args ∧ laidMetH C.prog L (w.forCall tape i).memory) ∧ sizedMet enc C.prog fn (OpenSpec.ofChange s) false (w.forCall tape i).memory i.args) ∧ Assume.holds {} C.prog (lone (Frame.enter C.prog f i.args .normal) [] (w.forCall tape i)))
  (laid : laidOutB C.prog = true) (hps : fn.params.toList = ts) (hread : ts.all (fun t => C.prog.readableRec t && decide (t < C.prog.types.size)) = true) (hres : fn.resultTypes = #[tb]) (hbool : C.prog.underlying tb = some .bool) (hvars : s.vars = [])
  (hsays : ∀ ds : List (DataW H), ds.length = ts.length → s.fn H ds = { results := [.lit (.bool true)], args := ds })
  (hcall : ∀ (W : World) (base : Nat) (args : Array Value) (ds : List (DataW H)) (p : List MemPlace), (∀ (j : Nat) t v, ts[j]? = some t → args[j]? = some v → Value.okWide C.prog W .any base t v) →
   DataW.TrodAll enc C.prog W 0 (fun _ => true) true ts args.toList ds p → (∀ x, x ∈ DataW.weightsEach C.prog ts ds → x ≤ reach) → laidMetH C.prog L W →
   Calls C.prog f args W fun e W' => e = .returned (.bool true) ∧ Below W.heap.size W W') :
  ReturnsInHanded {} C os f .any (fun w args => (s.pre enc C.prog fn conds false w args ∧ laidMetH C.prog L w) ∧ sizedMet enc C.prog fn (OpenSpec.ofChange s) false w args) (s.post enc C.prog fn false true false false) := by
 refine returnsInHanded_of_change_and (X := fun w _ => laidMetH C.prog L w) (fun _ _ _ hh h => h.of_heap hh) own started noInit hfn witness ?_
 intro W base args ds gs before hval hW hcnd hwt hL _
 have hW' := hW
 obtain ⟨p, q, hA, hV, rfl, hfz, hnd⟩ := hW
 rw [hvars] at hV
 obtain ⟨rfl, rfl⟩ := trodVars_none hV
 rw [hps] at hA hwt
 have hlen : ∀ {ts : List TypeId} {vs : List Value} {ds : List (DataW H)} {ps : List MemPlace}, DataW.TrodAll enc C.prog W 0 (fun _ => true) true ts vs ds ps → ds.length = ts.length := by
  intro ts
  induction ts with
  | nil => intro vs ds ps h; obtain ⟨_, rfl, _⟩ := trodAll_nil h; rfl
  | cons t ts ih =>
   intro vs ds ps h
   obtain ⟨v, vs1, d, ds1, a, b, rfl, rfl, rfl, _, h2⟩ := trodAll_cons h
   simp [ih h2]
 have hvt : s.plain.varTypes C.prog = [] := by
  have : s.plain.vars = [] := hvars
  unfold DataSpec.varTypes; rw [this]; rfl
 have hw2 : ∀ x, x ∈ DataW.weightsEach C.prog ts ds → x ≤ reach := by
  intro x hx
  rw [List.append_nil, hvt, List.append_nil] at hwt
  have := List.all_eq_true.mp hwt x hx
  exact of_decide_eq_true this
 refine (hcall W base args ds p (fun j t v ht hv => hval j t v (by rw [← Array.getElem?_toList, hps]; exact ht) hv) hA hw2 hL).mono ?_
 intro e W' ⟨he, hb⟩
 have hlt : ∀ x ∈ p, x.block < W.heap.size := fun x hx => hW'.lt x (by simpa using hx)
 refine ⟨.bool true, he, ds, [], p ++ [], [], p, [], hW', ?_, ?_, ?_, hb.frame _, fun h => by cases h⟩
 ·rw [List.append_nil, hsays ds (hlen hA), hres]
  exact ⟨[], [], ⟨1, by simp [DataW.trod, Value.cells, hbool]⟩, rfl, rfl⟩
 ·rw [List.append_nil, hsays ds (hlen hA), hps]
  refine V4 laid hb (fun t ht => ?_) hA hlt
  have := List.all_eq_true.mp hread t ht
  simpa using this
 ·rw [List.append_nil, hsays ds (hlen hA), hvars]
  rfl
theorem D0k {P : Program} {W : World} {nm : String} {t e : TypeId} {tab : List Nat} (hg : P.globalNamed nm = some 0) (ht : (P.globals[0]?).map (·.type) = some t) (hu : P.underlying t = some (.array tab.length e)) (he : P.underlying e = some (.int .u8)) (hc : P.cellsOf e = 1) (hc2 : P.cellsOf t = tab.length) (hpos : 0 < tab.length)
  (hp : ([(nm, (DataW.agg (tab.map fun (v : Nat) => .lit (.int .u8 (v : Int))) : DataW Unit))].all fun x => x.2.handleName?.isNone) = true) (h : laidMetH P [(nm, .agg (tab.map fun (v : Nat) => .lit (.int .u8 (v : Int))))] W) : TabAt 0 tab W ∧ 0 < W.heap.size := by
 rw [MakeChecks.laidMetH_plain _ _ _ hp] at h
 obtain ⟨ps, ⟨g0, t0, cs0, f0, p0, q0, hg0, ht0, hv0, hd0, _⟩, _⟩ := h
 obtain rfl := u_ hg hg0
 obtain rfl := u_ ht ht0
 obtain ⟨xs, m1, rfl, hx1, hlen, hn3, hel⟩ := DataW.trod_array hu hd0
 simp only [Prod.mk.injEq, DataW.agg.injEq] at hx1
 have hcell : ∀ j, j < tab.length → W.cell? ⟨0, j, none⟩ = some (.int .u8 (tab.getD j 0)) := by
  intro j hj
  have h1 := hel j hj
  rw [hc, Nat.mul_one, List.getElem?_eq_getElem A3] at h1
  obtain ⟨n, e1, e2, _⟩ := DataW.trod_int he h1
  have h2 := World.var?_cell hg0 hv0 j
  have h3 : cs0[j]? = some (.int .u8 n) := by
   have h4 := congrArg (fun l => l[0]?) e1
   simp only [List.getElem?_take, List.getElem?_drop, List.getElem?_cons_zero] at h4
   simpa using h4
  rw [h2, h3]
  have h5 : (tab.map fun (v : Nat) => (DataW.lit (.int .u8 (v : Int)) : DataW Unit))[j]? = (xs.map (·.1))[j]? := by rw [hx1.1]
  rw [List.getElem?_map, List.getElem?_map, List.getElem?_eq_getElem hj, List.getElem?_eq_getElem (show j < xs.length by omega)] at h5
  simp only [Option.map_some, Option.some.injEq] at h5
  rw [e2] at h5
  simp only [DataW.lit.injEq, Lit.int.injEq, true_and] at h5
  rw [List.getD_eq_getElem?_getD, List.getElem?_eq_getElem hj]
  simp [← h5]
 refine ⟨hcell, ?_⟩
 have h6 := hcell 0 hpos
 refine Nat.lt_of_not_le fun hz => ?_
 unfold World.cell? at h6
 rw [Array.getElem?_eq_none (show W.heap.size ≤ 0 from hz)] at h6
 simp at h6
theorem D0l {W : World} {tab : List Nat} (h : TabAt 0 tab W ∧ 0 < W.heap.size) : (At 0 0 (tab.map fun (v : Nat) => Value.int .u8 (v : Int))).f (okw W) W := by
 refine ⟨h.2, fun j v hj => ?_⟩
 rw [List.getElem?_map] at hj
 cases hq : tab[j]? with
 | none => rw [hq] at hj; cases hj
 | some k =>
  rw [hq] at hj
  injection hj with hj
  subst hj
  have hlt : j < tab.length := by
   refine Nat.lt_of_not_le fun hn => ?_
   rw [List.getElem?_eq_none hn] at hq
   cases hq
  have h1 := h.1 j hlt
  rw [List.getD_eq_getElem?_getD, hq] at h1
  rw [Nat.zero_add]
  exact h1
end Go.Hy
namespace Go.Hy
abbrev Wd : Type := Nat → Prop
def Jp (c : Cl) (P N : Wd) : Prop := (∀ i, c.pos.testBit i = true → P i) ∧ ∀ i, c.neg.testBit i = true → N i
def sat (l : List Cl) (P N : Wd) : Prop := ∃ c, c ∈ l ∧ Jp c P N
def Ki (s : Nat) : Wd := fun i => s.testBit i = true
def Yn (P N : Wd) : Prop := ∀ i, ¬ (P i ∧ N i)
theorem D2v {a b : Nat} : a ||| b = a ↔ ∀ i, b.testBit i = true → a.testBit i = true := by
 constructor
 ·intro h i hi
  rw [← h, Nat.testBit_or, hi, Bool.or_true]
 ·intro h
  refine Nat.eq_of_testBit_eq fun i => ?_
  rw [Nat.testBit_or]
  cases hb : b.testBit i with
  | false => simp
  | true => rw [h i hb]; rfl
theorem Lm {a b : Cl} : below a b = true ↔ Jp b (Ki a.pos) (Ki a.neg) := by
 unfold below Jp Ki
 rw [Bool.and_eq_true, decide_eq_true_eq, decide_eq_true_eq, D2v, D2v]
theorem Z7 (c : Cl) : Jp c (Ki c.pos) (Ki c.neg) := ⟨fun i h => h, fun i h => h⟩
theorem Xi {a b : Cl} {P N : Wd} (h : below a b = true) (hs : Jp a P N) : Jp b P N := by
 have h1 := Lm.mp h
 exact ⟨fun i hi => hs.1 i (h1.1 i hi), fun i hi => hs.2 i (h1.2 i hi)⟩
theorem C2k (c : Cl) : below c c = true := Lm.mpr (Z7 c)
theorem A1g {a b c : Cl} (h : below a b = true) (h2 : below b c = true) : below a c = true := Lm.mpr (Xi h2 (Lm.mp h))
theorem C2m {a b : Cl} (h : below a b = true) (h2 : below b a = true) : a = b := by
 have h1 := Lm.mp h
 have h3 := Lm.mp h2
 unfold Jp Ki at h1 h3
 have e1 : a.pos = b.pos := Nat.eq_of_testBit_eq fun i => by
  cases ha : a.pos.testBit i with
  | true => exact (h3.1 i ha).symm
  | false => cases hb : b.pos.testBit i with
   | false => rfl
   | true => rw [h1.1 i hb] at ha; cases ha
 have e2 : a.neg = b.neg := Nat.eq_of_testBit_eq fun i => by
  cases ha : a.neg.testBit i with
  | true => exact (h3.2 i ha).symm
  | false => cases hb : b.neg.testBit i with
   | false => rfl
   | true => rw [h1.2 i hb] at ha; cases ha
 cases a; cases b; simp_all
theorem A6u {l : List Cl} {c : Cl} (h : Cb l c = true) : ∃ d, d ∈ l ∧ c ≠ d ∧ below c d = true := by
 unfold Cb at h
 obtain ⟨d, hd, h2⟩ := List.any_eq_true.mp h
 rw [Bool.and_eq_true] at h2
 exact ⟨d, hd, by simpa using h2.1, h2.2⟩
theorem Tl {l : List Cl} : ∀ (n : Nat) (c : Cl), c.pos + c.neg ≤ n → c ∈ l → ∃ d, d ∈ Ej l ∧ below c d = true
 | n, c, hn, hc => by
  cases h : Cb l c with
  | false => exact ⟨c, Fx.mpr ⟨hc, h⟩, C2k c⟩
  | true =>
   obtain ⟨d, hd, hne, hb⟩ := A6u h
   have h1 : c.pos ||| d.pos = c.pos ∧ c.neg ||| d.neg = c.neg := by
    unfold below at hb
    rw [Bool.and_eq_true, decide_eq_true_eq, decide_eq_true_eq] at hb
    exact hb
   have h2 : d.pos ≤ c.pos := by have := Nat.right_le_or (n := c.pos) (m := d.pos); omega
   have h3 : d.neg ≤ c.neg := by have := Nat.right_le_or (n := c.neg) (m := d.neg); omega
   have h4 : d.pos + d.neg < c.pos + c.neg := by
    refine Nat.lt_of_le_of_ne A3 fun he => hne ?_
    have e1 : c.pos = d.pos := by omega
    have e2 : c.neg = d.neg := by omega
    cases c; cases d; simp_all
   obtain ⟨e, he, h5⟩ := Tl (d.pos + d.neg) d (Nat.le_refl _) hd
   exact ⟨e, he, A1g hb h5⟩
termination_by n c => c.pos + c.neg
theorem B1t {l : List Cl} {P N : Wd} : sat (Ej l) P N ↔ sat l P N := by
 constructor
 ·rintro ⟨c, hc, h⟩; exact ⟨c, (Fx.mp hc).1, h⟩
 ·rintro ⟨c, hc, h⟩
  obtain ⟨d, hd, hb⟩ := Tl _ c (Nat.le_refl _) hc
  exact ⟨d, hd, Xi hb h⟩
theorem Ip {l : List Cl} {P N : Wd} (h : (Am l).1 = 0) : sat (Am l).2 P N ↔ sat l P N := by
 rcases Ha l with ⟨_, _, h2, _⟩ | h2 | h2
 ·rw [h2]; exact B1t
 ·rw [h2] at h; cases h
 ·rw [h2] at h; cases h
theorem B2b {l m : List Cl} (Q : Wd → Wd → Prop) (hl : ∀ c, c ∈ l → Q (Ki c.pos) (Ki c.neg)) (hm : ∀ c, c ∈ m → Q (Ki c.pos) (Ki c.neg)) (h : ∀ P N, Q P N → (sat l P N ↔ sat m P N)) : Ej l = Ej m := by
 have half : ∀ {l m : List Cl}, (∀ c, c ∈ l → Q (Ki c.pos) (Ki c.neg)) → (∀ c, c ∈ m → Q (Ki c.pos) (Ki c.neg)) → (∀ P N, Q P N → (sat l P N ↔ sat m P N)) → ∀ x, x ∈ Ej l → x ∈ Ej m := by
  intro l m hl hm h x hx
  obtain ⟨h1, h2⟩ := Fx.mp hx
  have key : ∀ d, d ∈ m → below x d = true → x = d := by
   intro d hd hb
   obtain ⟨e, he, hse⟩ := (h _ _ (hm d hd)).mpr ⟨d, hd, Z7 d⟩
   have hb2 : below d e = true := Lm.mpr hse
   rcases Ma.mp h2 e he with h3 | h3
   ·subst h3; exact C2m hb hb2
   ·rw [A1g hb hb2] at h3; cases h3
  obtain ⟨d, hd, hsd⟩ := (h _ _ (hl x h1)).mp ⟨x, h1, Z7 x⟩
  have hxd := key d hd (Lm.mpr hsd)
  refine Fx.mpr ⟨hxd ▸ hd, Ma.mpr fun e he => ?_⟩
  cases hb : below x e with
  | false => exact .inr rfl
  | true => exact .inl (key e he hb)
 exact Vs (Kk l) (Kk m) fun x => ⟨half hl hm h x, half hm hl (fun P N hq => (h P N hq).symm) x⟩
theorem C1e {l m : List Cl} (Q : Wd → Wd → Prop) (r1 : l.all Av = true) (r2 : m.all Av = true) (hl : ∀ c, c ∈ l → Q (Ki c.pos) (Ki c.neg)) (hm : ∀ c, c ∈ m → Q (Ki c.pos) (Ki c.neg)) (h : ∀ P N, Q P N → (sat l P N ↔ sat m P N)) : Am l = Am m := by
 unfold Am
 rw [r1, r2, B2b Q hl hm h]
theorem Ht {l : List Cl} (h : A9 l = true) : l.all Av = true := by
 unfold A9 at h
 simp only [Bool.and_eq_true] at h
 exact h.1.1.1
theorem Uf {c : Cl} : Ew c = false ↔ Yn (Ki c.pos) (Ki c.neg) := by
 unfold Ew Yn Ki
 rw [decide_eq_false_iff_not, Decidable.not_not]
 constructor
 ·rintro h i ⟨h1, h2⟩
  have h3 : (c.pos &&& c.neg).testBit i = true := by rw [Nat.testBit_and, h1, h2]; rfl
  rw [h, Nat.zero_testBit] at h3
  cases h3
 ·intro h
  refine Nat.eq_of_testBit_eq fun i => ?_
  rw [Nat.testBit_and, Nat.zero_testBit]
  cases h1 : c.pos.testBit i with
  | false => rfl
  | true => cases h2 : c.neg.testBit i with
   | false => rfl
   | true => exact absurd ⟨h1, h2⟩ (h i)
theorem Cr {l : List Cl} (h : A2 l = true) : A9 l = true ∧ ∀ c, c ∈ l → Ew c = false := by
 unfold A2 at h
 rw [Bool.and_eq_true, Bool.not_eq_true'] at h
 refine ⟨h.1, fun c hc => ?_⟩
 cases hq : Ew c with
 | false => rfl
 | true => rw [List.any_eq_true.mpr ⟨c, hc, hq⟩] at h; cases h.2
theorem Oy {l : List Cl} (h : A9 l = true) (h2 : ∀ c, c ∈ l → Ew c = false) : A2 l = true := by
 unfold A2
 rw [Bool.and_eq_true, Bool.not_eq_true', h]
 refine ⟨rfl, ?_⟩
 cases hq : l.any Ew with
 | false => rfl
 | true => obtain ⟨c, hc, h3⟩ := List.any_eq_true.mp hq; rw [h2 c hc] at h3; cases h3
section
variable {f g l : List Cl} {P N : Wd} {a b c : Cl}
theorem C3k : ¬ sat [] P N := by rintro ⟨c, hc, _⟩; cases hc
theorem Vu : sat (f ++ g) P N ↔ sat f P N ∨ sat g P N := by
 unfold sat
 simp only [List.mem_append]
 constructor
 ·rintro ⟨c, h | h, h2⟩
  ·exact .inl ⟨c, h, h2⟩
  ·exact .inr ⟨c, h, h2⟩
 ·rintro (⟨c, h, h2⟩ | ⟨c, h, h2⟩)
  ·exact ⟨c, .inl h, h2⟩
  ·exact ⟨c, .inr h, h2⟩
theorem Pc : sat [c] P N ↔ Jp c P N := by
 unfold sat
 constructor
 ·rintro ⟨d, hd, h⟩; rw [List.mem_singleton] at hd; subst hd; exact h
 ·intro h; exact ⟨c, List.mem_singleton.mpr rfl, h⟩
theorem D1a : Jp A6 P N := ⟨fun i hi => by simp [A6] at hi, fun i hi => by simp [A6] at hi⟩
theorem D6x : sat [A6] P N := Pc.mpr D1a
theorem A8f : Jp (Dr a b) P N ↔ Jp a P N ∧ Jp b P N := by
 unfold Jp Dr
 simp only [Nat.testBit_or, Bool.or_eq_true]
 constructor
 ·rintro ⟨h1, h2⟩; exact ⟨⟨fun i hi => h1 i (.inl hi), fun i hi => h2 i (.inl hi)⟩, fun i hi => h1 i (.inr hi), fun i hi => h2 i (.inr hi)⟩
 ·rintro ⟨h1, h2⟩; exact ⟨fun i hi => hi.elim (h1.1 i) (h2.1 i), fun i hi => hi.elim (h1.2 i) (h2.2 i)⟩
theorem U3 : sat (Ij f g) P N ↔ sat f P N ∧ sat g P N := by
 unfold sat Ij
 simp only [List.mem_flatMap, List.mem_map]
 constructor
 ·rintro ⟨c, ⟨a, ha, b, hb, rfl⟩, h⟩
  have h2 := A8f.mp h
  exact ⟨⟨a, ha, h2.1⟩, b, hb, h2.2⟩
 ·rintro ⟨⟨a, ha, h1⟩, b, hb, h2⟩
  exact ⟨_, ⟨a, ha, b, hb, rfl⟩, A8f.mpr ⟨h1, h2⟩⟩
theorem A3c (hw : Yn P N) : sat (F6 l) P N ↔ sat l P N := by
 unfold sat F6
 constructor
 ·rintro ⟨c, hc, h⟩; exact ⟨c, (List.mem_filter.mp hc).1, h⟩
 ·rintro ⟨c, hc, h⟩
  refine ⟨c, List.mem_filter.mpr ⟨hc, ?_⟩, h⟩
  rw [Bool.not_eq_true', Uf]
  rintro i ⟨h1, h2⟩
  exact hw i ⟨h.1 i h1, h.2 i h2⟩
end
theorem B8o {i : Int} {j : Nat} : (Ee i).testBit j = true ↔ (0 ≤ i ∧ i < 24) ∧ (j : Int) = i := by
 unfold Ee
 split
 ·rename_i h
  rw [Nat.testBit_two_pow, decide_eq_true_eq]
  omega
 ·rename_i h
  rw [Nat.zero_testBit]
  constructor
  ·intro h2; cases h2
  ·rintro ⟨h2, _⟩; exact absurd h2 h
theorem H6 {s : Nat} {i : Int} {j : Nat} : (Al s i).testBit j = true ↔ j < 24 ∧ s.testBit j = true ∧ (j : Int) ≠ i := by
 unfold Al
 split
 ·rename_i h
  rw [Gh, Eh, Nat.testBit_two_pow]
  simp only [Bool.and_eq_true, decide_eq_true_eq, Bool.not_eq_true', decide_eq_false_iff_not]
  constructor
  ·rintro ⟨⟨_, h2, h3⟩, h4⟩; exact ⟨h2, h3, by omega⟩
  ·rintro ⟨h1, h2, h3⟩; exact ⟨⟨by omega, h1, h2⟩, by omega⟩
 ·rename_i h
  rw [Eh]
  simp only [Bool.and_eq_true, decide_eq_true_eq]
  constructor
  ·rintro ⟨h1, h2⟩; exact ⟨h1, h2, by omega⟩
  ·rintro ⟨h1, h2, _⟩; exact ⟨h1, h2⟩
theorem M6 {c : Cl} (h : Av c = true) : (∀ i, c.pos.testBit i = true → i < 24) ∧ ∀ i, c.neg.testBit i = true → i < 24 := by
 obtain ⟨h1, h2⟩ := D6.mp h
 have key : ∀ s i : Nat, s < 16777216 → s.testBit i = true → i < 24 := fun s i hs hi => by
  refine Decidable.byContradiction fun hn => ?_
  have h3 : s < 2 ^ i := Nat.lt_of_lt_of_le (show s < 2 ^ 24 by omega) (Nat.pow_le_pow_right A3 A3)
  rw [Nat.testBit_lt_two_pow h3] at hi
  cases hi
 exact ⟨fun i hi => key _ i h1 hi, fun i hi => key _ i h2 hi⟩
theorem C6r {c : Cl} {i : Int} {P N : Wd} (hc : Av c = true) : Jp (Ac c i) P N ↔ (∀ j : Nat, c.pos.testBit j = true → (j : Int) ≠ i → P j) ∧ ∀ j : Nat, c.neg.testBit j = true → (j : Int) ≠ i → N j := by
 obtain ⟨h1, h2⟩ := M6 hc
 unfold Jp Ac
 simp only [H6]
 exact ⟨fun h => ⟨fun j hj hn => h.1 j ⟨h1 j hj, hj, hn⟩, fun j hj hn => h.2 j ⟨h2 j hj, hj, hn⟩⟩, fun h => ⟨fun j hj => h.1 j hj.2.1 hj.2.2, fun j hj => h.2 j hj.2.1 hj.2.2⟩⟩
theorem Gm {s : Nat} {x : Int} : x ∈ A4 s ↔ 0 ≤ x ∧ x < 24 ∧ s.testBit x.toNat = true := F4
theorem D6w {c : Cl} {P N : Wd} (hc : Av c = true) : sat (A1l c) P N ↔ (∃ i, c.pos.testBit i = true ∧ N i) ∨ ∃ i, c.neg.testBit i = true ∧ P i := by
 obtain ⟨b1, b2⟩ := M6 hc
 unfold A1l
 rw [Vu]
 have one : ∀ (s : Nat) (hs : ∀ i, s.testBit i = true → i < 24) (mk : Nat → Cl) (Q : Wd) (hq : ∀ x : Int, 0 ≤ x → x < 24 → (Jp (mk (Ee x)) P N ↔ Q x.toNat)), sat ((A4 s).map fun i => mk (Ee i)) P N ↔ ∃ i, s.testBit i = true ∧ Q i := by
  intro s hs mk Q hq
  unfold sat
  simp only [List.mem_map]
  constructor
  ·rintro ⟨_, ⟨x, hx, rfl⟩, h⟩
   obtain ⟨x0, x1, x2⟩ := Gm.mp hx
   exact ⟨x.toNat, x2, (hq x x0 x1).mp h⟩
  ·rintro ⟨i, hi, h⟩
   have h3 := hs i hi
   exact ⟨_, ⟨(i : Int), Gm.mpr ⟨by omega, by omega, by simpa using hi⟩, rfl⟩, (hq (i : Int) A3 A3).mpr (by simpa using h)⟩
 have e1 := one c.pos b1 (fun s => ⟨0, s⟩) N (fun x x0 x1 => by
  unfold Jp
  simp only [Nat.zero_testBit, B8o]
  constructor
  ·intro h; exact h.2 x.toNat ⟨⟨x0, x1⟩, by omega⟩
  ·intro h; exact ⟨fun i hi => (by cases hi), fun i hi => (show i = x.toNat by omega) ▸ h⟩)
 have e2 := one c.neg b2 (fun s => ⟨s, 0⟩) P (fun x x0 x1 => by
  unfold Jp
  simp only [Nat.zero_testBit, B8o]
  constructor
  ·intro h; exact h.1 x.toNat ⟨⟨x0, x1⟩, by omega⟩
  ·intro h; exact ⟨fun i hi => (show i = x.toNat by omega) ▸ h, fun i hi => (by cases hi)⟩)
 exact or_congr e1 e2
theorem Ox {g : List Cl → Cl → EL} {L : List Cl} {I : List Cl → List Cl → Prop} (hs : ∀ pre c h, c ∈ L → I pre h → (g h c).1 = 0 → I (pre ++ [c]) (g h c).2) : ∀ (m pre h : List Cl), I pre h → (∀ c, c ∈ m → c ∈ L) → (D7 g h m).1 = 0 → I (pre ++ m) (D7 g h m).2
 | [], pre, h, hi, _, _ => by rw [List.append_nil]; exact hi
 | c :: m, pre, h, hi, hm, h0 => by
  rw [D7] at h0 ⊢
  by_cases h1 : (g h c).1 = 0
  ·rw [Cf h1] at h0 ⊢
   have h2 := Ox hs m (pre ++ [c]) _ (hs pre c h (hm c List.mem_cons_self) hi h1) (fun d hd => hm d (List.mem_cons_of_mem _ hd)) h0
   rwa [List.append_assoc] at h2
  ·rw [Cg h1] at h0
   exact absurd h0 h1
theorem Eb {x : EL} {k : List Cl → EL} (h : (Ix x k).1 = 0) : x.1 = 0 ∧ (k x.2).1 = 0 ∧ Ix x k = k x.2 := by
 by_cases h1 : x.1 = 0
 ·rw [Cf h1] at h ⊢; exact ⟨h1, h, rfl⟩
 ·rw [Cg h1] at h; exact absurd h h1
def coW (P : Wd) : Wd := fun i => ¬ P i
theorem C3j {f : List Cl} {P N : Wd} (hf : ∀ c, c ∈ f → Av c = true) (h : (Kg f).1 = 0) : sat (Kg f).2 P N ↔ ¬ sat f (coW N) (coW P) := by
 have h2 := Ox (g := Dh) (L := f) (I := fun pre h => ∀ P N, sat h P N ↔ ∀ c, c ∈ pre → ¬ Jp c (coW N) (coW P)) (fun pre c h hc hi h0 P N => by
  unfold Dh at h0 ⊢
  obtain ⟨a1, a2, a3⟩ := Eb h0
  rw [a3]
  unfold I5 at a2 ⊢
  rw [Ip a2, U3, hi]
  unfold Rb at a1 ⊢
  rw [Ip a1, D6w (hf c hc)]
  simp only [List.mem_append, List.mem_singleton, or_imp, forall_and, forall_eq]
  refine and_congr Iff.rfl ?_
  unfold Jp coW
  constructor
  ·rintro (⟨i, hi, hn⟩ | ⟨i, hi, hn⟩) ⟨h1, h2⟩
   ·exact h1 i hi hn
   ·exact h2 i hi hn
  ·intro h1
   refine Classical.byContradiction fun h2 => h1 ⟨fun i hi hn => h2 (.inl ⟨i, hi, hn⟩), fun i hi hn => h2 (.inr ⟨i, hi, hn⟩)⟩) f [] [A6] (fun P N => ⟨fun _ c hc => (by cases hc), fun _ => D6x⟩) (fun c hc => hc) h P N
 rw [List.nil_append] at h2
 unfold Kg
 rw [h2]
 unfold sat
 constructor
 ·rintro h3 ⟨c, hc, h4⟩; exact h3 c hc h4
 ·intro h3 c hc h4; exact h3 ⟨c, hc, h4⟩
def ovr (P : Wd) (i : Int) (A : Prop) : Wd := fun j => if (j : Int) = i then A else P j
theorem Xk {c : Cl} {i : Int} {P N : Wd} {A A' : Prop} (hc : Av c = true) : Jp c (ovr P i A) (ovr N i A') ↔ Jp (Ac c i) P N ∧ (C8 c.pos i = true → A) ∧ (C8 c.neg i = true → A') := by
 obtain ⟨b1, b2⟩ := M6 hc
 rw [C6r hc]
 unfold Jp ovr C8
 simp only [Bool.and_eq_true, decide_eq_true_eq]
 constructor
 ·rintro ⟨h1, h2⟩
  refine ⟨⟨fun j hj hn => ?_, fun j hj hn => ?_⟩, ?_, ?_⟩
  ·have := h1 j hj; rwa [if_neg hn] at this
  ·have := h2 j hj; rwa [if_neg hn] at this
  ·rintro ⟨⟨h3, h4⟩, h5⟩; have := h1 _ h5; rwa [if_pos A3] at this
  ·rintro ⟨⟨h3, h4⟩, h5⟩; have := h2 _ h5; rwa [if_pos A3] at this
 ·rintro ⟨⟨h1, h2⟩, h3, h4⟩
  refine ⟨fun j hj => ?_, fun j hj => ?_⟩
  ·split
   ·rename_i h; have := b1 j hj; exact h3 ⟨⟨by omega, by omega⟩, by rw [← h]; simpa using hj⟩
   ·rename_i h; exact h1 j hj h
  ·split
   ·rename_i h; have := b2 j hj; exact h4 ⟨⟨by omega, by omega⟩, by rw [← h]; simpa using hj⟩
   ·rename_i h; exact h2 j hj h
theorem B1z (c : Cl) (i : Int) : Av (Ac c i) = true := D6.mpr ⟨G0 _ _, G0 _ _⟩
theorem B5r {f r : List Cl} {i : Int} {P N : Wd} (h : (Bb f i r).1 = 0) : A9 f = true ∧ A9 r = true ∧ (0 ≤ i ∧ i < 24) ∧ (sat (Bb f i r).2 P N ↔ sat f (ovr P i (sat r P N)) (ovr N i (¬ sat r (coW N) (coW P)))) := by
 unfold Bb at h ⊢
 split at h
 ·cases h
 ·rename_i h1
  split at h
  ·cases h
  ·rename_i h2
   rw [if_neg h1, if_neg h2]
   simp only [Bool.not_eq_false, Bool.and_eq_true] at h1
   have h3 : 0 ≤ i ∧ i < 24 := by unfold F0 at h2; simpa using h2
   refine ⟨h1.1, h1.2, h3, ?_⟩
   have hr := Ht h1.2
   have hf := Ht h1.1
   have h4 := Ox (g := Ca i r) (L := f) (I := fun pre h => ∀ P N, sat h P N ↔ ∃ c, c ∈ pre ∧ Jp c (ovr P i (sat r P N)) (ovr N i (¬ sat r (coW N) (coW P)))) (fun pre c h hc hi h0 P N => by
    unfold Ca at h0 ⊢
    obtain ⟨a1, a2, a3⟩ := Eb h0
    rw [a3]
    obtain ⟨b1, b2, b3⟩ := Eb a2
    rw [b3]
    unfold Fk at b2 ⊢
    rw [Ip b2, Vu, hi]
    have hc24 := List.all_eq_true.mp hf c hc
    have e1 : ∀ P N, sat (E7 i r c).2 P N ↔ Jp (Ac c i) P N ∧ (C8 c.pos i = true → sat r P N) := by
     intro P N
     unfold E7 at a1 ⊢
     split
     ·rename_i h5
      rw [if_pos h5] at a1
      unfold I5 at a1 ⊢
      rw [Ip a1, U3, Pc]
      exact ⟨fun h => ⟨h.1, fun _ => h.2⟩, fun h => ⟨h.1, h.2 h5⟩⟩
     ·rename_i h5
      rw [Pc]
      exact ⟨fun h => ⟨h, fun h6 => absurd h6 h5⟩, fun h => h.1⟩
    have e2 : sat (Hn i r c (E7 i r c).2).2 P N ↔ sat (E7 i r c).2 P N ∧ (C8 c.neg i = true → ¬ sat r (coW N) (coW P)) := by
     unfold Hn at b1 ⊢
     split
     ·rename_i h5
      rw [if_pos h5] at b1
      obtain ⟨d1, d2, d3⟩ := Eb b1
      rw [d3]
      unfold I5 at d2 ⊢
      rw [Ip d2, U3, C3j (fun c hc => List.all_eq_true.mp hr c hc) d1]
      exact ⟨fun h => ⟨h.1, fun _ => h.2⟩, fun h => ⟨h.1, h.2 h5⟩⟩
     ·rename_i h5
      exact ⟨fun h => ⟨h, fun h6 => absurd h6 h5⟩, fun h => h.1⟩
    rw [e2, e1]
    simp only [List.mem_append, List.mem_singleton]
    constructor
    ·rintro (⟨d, hd, hs⟩ | hs)
     ·exact ⟨d, .inl hd, hs⟩
     ·exact ⟨c, .inr rfl, (Xk hc24).mpr ⟨hs.1.1, hs.1.2, hs.2⟩⟩
    ·rintro ⟨d, hd | hd, hs⟩
     ·exact .inl ⟨d, hd, hs⟩
     ·subst hd
      obtain ⟨q1, q2, q3⟩ := (Xk hc24).mp hs
      exact .inr ⟨⟨q1, q2⟩, q3⟩) f [] [] (fun P N => ⟨fun h => absurd h C3k, fun ⟨c, hc, _⟩ => (by cases hc)⟩) (fun c hc => hc) h P N
   rw [List.nil_append] at h4
   exact h4
theorem D0z {r : List Cl} {P N : Wd} (hw : Yn P N) (h : (Mk r).1 = 0) : sat (Mk r).2 P N ↔ sat r P N := by
 unfold Mk at h ⊢
 split at h
 ·rename_i h1
  rw [if_pos h1, Ip h, A3c hw]
 ·cases h
theorem B9r {r : List Cl} {P N : Wd} (hw : Yn P N) (h : (Bh r).1 = 0) : sat (Bh r).2 P N ↔ ¬ sat r (coW N) (coW P) := by
 unfold Bh at h ⊢
 obtain ⟨a1, a2, a3⟩ := Eb h
 rw [a3, D0z hw a2]
 unfold Dl at a1 ⊢
 split at a1
 ·rename_i h1
  rw [if_pos h1, C3j (fun c hc => List.all_eq_true.mp (Ht h1) c hc) a1]
 ·cases a1
theorem U8 {c : Cl} {x : List Cl} : Jz [c] x = Am (F6 (x.map fun b => Dr c b)) := by
 unfold Jz
 simp
theorem Xj {c : Cl} {x : List Cl} {P N : Wd} : sat (x.map fun b => Dr c b) P N ↔ Jp c P N ∧ sat x P N := by
 have h := U3 (f := [c]) (g := x) (P := P) (N := N)
 rw [Pc] at h
 rw [← h]
 unfold Ij
 simp
theorem A5r {c : Cl} {i : Int} (h : Ew c = false) : Ew (Ac c i) = false := by
 rw [Uf] at h ⊢
 rintro j ⟨h1, h2⟩
 exact h j ⟨(H6.mp h1).2.1, (H6.mp h2).2.1⟩
theorem has_both {c : Cl} {i : Int} (h : Ew c = false) (h1 : C8 c.pos i = true) : C8 c.neg i = false := by
 cases h2 : C8 c.neg i with
 | false => rfl
 | true =>
  unfold C8 at h1 h2
  simp only [Bool.and_eq_true] at h1 h2
  exact absurd ⟨h1.2, h2.2⟩ (Uf.mp h _)
theorem D0y {c : Cl} {r : List Cl} {i : Int} {P N : Wd} (hw : Yn P N) (hcl : Ew c = false) (h : (Cp i r c).1 = 0) : sat (Cp i r c).2 P N ↔ Jp (Ac c i) P N ∧ (C8 c.pos i = true → sat r P N) ∧ (C8 c.neg i = true → ¬ sat r (coW N) (coW P)) := by
 unfold Cp at h ⊢
 split at h
 ·rename_i h1
  rw [if_pos h1]
  obtain ⟨a1, a2, a3⟩ := Eb h
  rw [a3]
  rw [U8] at a2 ⊢
  rw [Ip a2, A3c hw, Xj, D0z hw a1]
  have h2 := has_both hcl h1
  exact ⟨fun h => ⟨h.1, fun _ => h.2, fun h3 => by rw [h2] at h3; cases h3⟩, fun h => ⟨h.1, h.2.1 h1⟩⟩
 ·rename_i h1
  rw [if_neg h1]
  split at h
  ·rename_i h2
   rw [if_pos h2]
   obtain ⟨a1, a2, a3⟩ := Eb h
   rw [a3]
   rw [U8] at a2 ⊢
   rw [Ip a2, A3c hw, Xj, B9r hw a1]
   exact ⟨fun h => ⟨h.1, fun h3 => absurd h3 h1, fun _ => h.2⟩, fun h => ⟨h.1, h.2.2 h2⟩⟩
  ·rename_i h2
   rw [if_neg h2, Pc]
   exact ⟨fun h => ⟨h, fun h3 => absurd h3 h1, fun h3 => absurd h3 h2⟩, fun h => h.1⟩
theorem C7l {c : Cl} {r : List Cl} {i : Int} (hcl : Ew c = false) (h : (Cp i r c).1 = 0) : ∀ d, d ∈ (Cp i r c).2 → Ew d = false := by
 have key : ∀ x : List Cl, (Jz [Ac c i] x).1 = 0 → ∀ d, d ∈ (Jz [Ac c i] x).2 → Ew d = false := by
  intro x hx d hd
  rw [U8] at hx hd
  have h2 := Kv hx hd
  unfold F6 at h2
  simpa using (List.mem_filter.mp h2).2
 unfold Cp at h ⊢
 split at h
 ·rename_i h1
  rw [if_pos h1]
  obtain ⟨a1, a2, a3⟩ := Eb h
  rw [a3]
  exact key _ a2
 ·rename_i h1
  rw [if_neg h1]
  split at h
  ·rename_i h2
   rw [if_pos h2]
   obtain ⟨a1, a2, a3⟩ := Eb h
   rw [a3]
   exact key _ a2
  ·rename_i h2
   rw [if_neg h2]
   intro d hd
   rw [List.mem_singleton] at hd
   subst hd
   exact A5r hcl
theorem A0l {f r : List Cl} {i : Int} (h : (B2 f i r).1 = 0) : A2 f = true ∧ A9 r = true ∧ (0 ≤ i ∧ i < 24) ∧ A2 (B2 f i r).2 = true ∧ ∀ P N, Yn P N → (sat (B2 f i r).2 P N ↔ sat f (ovr P i (sat r P N)) (ovr N i (¬ sat r (coW N) (coW P)))) := by
 unfold B2 at h ⊢
 split at h
 ·cases h
 ·rename_i h1
  rw [if_neg h1]
  simp only [Bool.not_eq_false, Bool.and_eq_true] at h1
  obtain ⟨⟨hf, hi⟩, hr⟩ := h1
  have h3 : 0 ≤ i ∧ i < 24 := by unfold F0 at hi; simpa using hi
  obtain ⟨hff, hfc⟩ := Cr hf
  have hf24 := Ht hff
  refine ⟨hf, hr, h3, ?_⟩
  have h4 := Ox (g := Cd i r) (L := f) (I := fun pre h => A2 h = true ∧ ∀ P N, Yn P N → (sat h P N ↔ ∃ c, c ∈ pre ∧ Jp c (ovr P i (sat r P N)) (ovr N i (¬ sat r (coW N) (coW P))))) (fun pre c h hc hi h0 => by
   unfold Cd at h0 ⊢
   obtain ⟨a1, a2, a3⟩ := Eb h0
   rw [a3]
   unfold Fk at a2 ⊢
   have hcl := hfc c hc
   refine ⟨Oy (Fo a2) fun d hd => ?_, fun P N hw => ?_⟩
   ·rcases List.mem_append.mp (Kv a2 hd) with hd | hd
    ·exact (Cr hi.1).2 d hd
    ·exact C7l hcl a1 d hd
   ·rw [Ip a2, Vu, hi.2 P N hw, D0y hw hcl a1]
    have hc24 := List.all_eq_true.mp hf24 c hc
    simp only [List.mem_append, List.mem_singleton]
    constructor
    ·rintro (⟨d, hd, hs⟩ | hs)
     ·exact ⟨d, .inl hd, hs⟩
     ·exact ⟨c, .inr rfl, (Xk hc24).mpr hs⟩
    ·rintro ⟨d, hd | hd, hs⟩
     ·exact .inl ⟨d, hd, hs⟩
     ·subst hd
      exact .inr ((Xk hc24).mp hs)) f [] [] ⟨by decide, fun P N _ => ⟨fun h => absurd h C3k, fun ⟨c, hc, _⟩ => (by cases hc)⟩⟩ (fun c hc => hc) h
  rw [List.nil_append] at h4
  exact h4
theorem C1m {f r : List Cl} {i : Int} (h : (Bb f i r).1 = 0) : A9 (Bb f i r).2 = true := by
 unfold Bb at h ⊢
 split at h
 ·cases h
 ·rename_i h1
  split at h
  ·cases h
  ·rename_i h2
   rw [if_neg h1, if_neg h2]
   exact Ox (g := Ca i r) (L := f) (I := fun pre h => A9 h = true) (fun pre c h hc hi h0 => by
    unfold Ca at h0 ⊢
    obtain ⟨a1, a2, a3⟩ := Eb h0
    rw [a3]
    obtain ⟨b1, b2, b3⟩ := Eb a2
    rw [b3]
    exact Fo b2) f [] [] K1 (fun c hc => hc) h
def shW (P : Wd) (f b : Int) : Wd := fun j => if (j : Int) < f then P j else P (j + b.toNat)
theorem A8g {c : Cl} {f b : Int} {P N : Wd} (h : (B4 c f b).1 = 0) : Jp (B4 c f b).2 P N ↔ Jp c (shW P f b) (shW N f b) := by
 obtain ⟨hr, h1, h2, h3⟩ := B0f h
 obtain ⟨b1, b2⟩ := M6 hr
 obtain ⟨f0, b0, _⟩ := Md h1 0
 rw [h3]
 have key : ∀ (s : Nat) (hs : ∀ i, s.testBit i = true → i < 24) (hm : (Ak s f b).1 = 0) (Q : Wd), (∀ i, (Ak s f b).2.testBit i = true → Q i) ↔ ∀ i, s.testBit i = true → shW Q f b i := by
  intro s hs hm Q
  constructor
  ·intro h i hi
   unfold shW
   split
   ·rename_i h4; exact h i ((Jv hm i).mpr ⟨i, hs i hi, hi, .inl ⟨h4, rfl⟩⟩)
   ·rename_i h4; exact h _ ((Jv hm _).mpr ⟨i, hs i hi, hi, .inr ⟨by omega, by omega⟩⟩)
  ·intro h i hi
   obtain ⟨j, _, hj, h4⟩ := (Jv hm i).mp hi
   have h5 := h j hj
   unfold shW at h5
   rcases h4 with ⟨h4, h6⟩ | ⟨h4, h6⟩
   ·rw [if_pos h4] at h5; rw [h6]; exact h5
   ·rw [if_neg A3] at h5; rw [show i = j + b.toNat by omega]; exact h5
 unfold Jp
 exact and_congr (key _ b1 h1 P) (key _ b2 h2 N)
theorem B5p {l : List Cl} {f b : Int} {P N : Wd} (h : (Aa l f b).1 = 0) : sat (Aa l f b).2 P N ↔ sat l (shW P f b) (shW N f b) := by
 obtain ⟨_, h2, h3⟩ := Pl h
 rw [h3] at h ⊢
 rw [Ip h]
 unfold sat
 simp only [List.mem_map]
 constructor
 ·rintro ⟨_, ⟨c, hc, rfl⟩, hs⟩; exact ⟨c, hc, (A8g (h2 c hc)).mp hs⟩
 ·rintro ⟨c, hc, hs⟩; exact ⟨_, ⟨c, hc, rfl⟩, (A8g (h2 c hc)).mpr hs⟩
theorem Zv {s : Nat} {i : Int} (h0 : 0 ≤ i) {k : Nat} : (Ev s i).testBit k = true ↔ ∃ j, j < 24 ∧ s.testBit j = true ∧ (((j : Int) < i ∧ k = j) ∨ (i < (j : Int) ∧ k + 1 = j)) := by
 unfold Ev
 split
 ·rename_i h
  rw [Nat.testBit_or, Nat.testBit_and, Mc, Nat.testBit_mul_two_pow, Nat.testBit_div_two_pow, Eh, Eh]
  simp only [Bool.or_eq_true, Bool.and_eq_true, decide_eq_true_eq]
  constructor
  ·rintro (⟨⟨h1, h2⟩, h3⟩ | ⟨h1, h2, h3⟩)
   ·exact ⟨k, h1, h2, .inl ⟨by omega, rfl⟩⟩
   ·exact ⟨_, h2, h3, .inr ⟨by omega, by omega⟩⟩
  ·rintro ⟨j, h1, h2, ⟨h3, h4⟩ | ⟨h3, h4⟩⟩
   ·subst h4; exact .inl ⟨⟨h1, h2⟩, by omega⟩
   ·refine .inr ⟨by omega, ?_⟩
    rw [show k - i.toNat + (i.toNat + 1) = j by omega]
    exact ⟨h1, h2⟩
 ·rename_i h
  rw [Eh]
  simp only [Bool.and_eq_true, decide_eq_true_eq]
  constructor
  ·rintro ⟨h1, h2⟩; exact ⟨k, h1, h2, .inl ⟨by omega, rfl⟩⟩
  ·rintro ⟨j, h1, h2, ⟨h3, h4⟩ | ⟨h3, h4⟩⟩
   ·subst h4; exact ⟨h1, h2⟩
   ·omega
theorem E6c (l : List Cl) : (Ej l).length ≤ l.length := by
 have := A3i l l.length
 rwa [B5w] at this
theorem A0z {l : List Cl} (h : l.all Av = true) (h2 : l.length ≤ 64) : (Am l).1 = 0 := by
 unfold Am
 rw [if_neg (by simp [h]), if_neg (by have := E6c l; omega)]
theorem A6r {c : Cl} {i : Int} {P N : Wd} {A A' : Prop} (h : ∀ j : Nat, (c.pos ||| c.neg).testBit j = true → (j : Int) ≠ i) : Jp c (ovr P i A) (ovr N i A') ↔ Jp c P N := by
 unfold Jp ovr
 constructor
 ·rintro ⟨h1, h2⟩
  refine ⟨fun j hj => ?_, fun j hj => ?_⟩
  ·have := h1 j hj; rwa [if_neg (h j (by rw [Nat.testBit_or, hj]; rfl))] at this
  ·have := h2 j hj; rwa [if_neg (h j (by rw [Nat.testBit_or, hj, Bool.or_true]))] at this
 ·rintro ⟨h1, h2⟩
  refine ⟨fun j hj => ?_, fun j hj => ?_⟩
  ·rw [if_neg (h j (by rw [Nat.testBit_or, hj]; rfl))]; exact h1 j hj
  ·rw [if_neg (h j (by rw [Nat.testBit_or, hj, Bool.or_true]))]; exact h2 j hj
theorem D4q {f : List Cl} {i : Int} (hf : f.all Av = true) (h : C8 (E5 f) i = false) {c : Cl} (hc : c ∈ f) (j : Nat) (hj : (c.pos ||| c.neg).testBit j = true) : (j : Int) ≠ i := by
 intro e
 subst e
 obtain ⟨b1, b2⟩ := M6 (List.all_eq_true.mp hf c hc)
 have hlt : j < 24 := by
  rw [Nat.testBit_or, Bool.or_eq_true] at hj
  exact hj.elim (b1 j) (b2 j)
 unfold C8 at h
 rw [decide_eq_true (show (0 : Int) ≤ (j : Int) by omega), decide_eq_true (show (j : Int) < 24 by omega)] at h
 simp only [Bool.true_and, Int.toNat_natCast] at h
 rw [C8u.mpr ⟨hlt, c, hc, hj⟩] at h
 cases h
theorem B5q {f : List Cl} {i : Int} {P N : Wd} {A A' : Prop} (hf : f.all Av = true) (h : C8 (E5 f) i = false) : sat f (ovr P i A) (ovr N i A') ↔ sat f P N := by
 unfold sat
 exact exists_congr fun c => and_congr_right fun hc => A6r (fun j hj => D4q hf h hc j hj)
def uE : T := .mk 3 0 ⟨#[]⟩ [] [] []
def aE (t u : T) : T := .mk 6 0 ⟨#[]⟩ [] [t, u] []
def hcF : T := .mk 15 0 ⟨#[]⟩ [] [uE, uE] []
theorem A7w {x : Int × T} {k : T → Int × T} (hx : Ro x.2) (h : ∀ u, Ro u → Ro (k u).2) : Ro (Sl x k).2 := by
 by_cases h1 : x.1 = 0
 ·rw [Jc h1]; exact h _ hx
 ·rw [Io h1]; exact Qr
theorem B3o {t : T} {i : Int} {r : List Cl} (h : Ro t) : Ro (B7 t i r).2 := by
 unfold B7
 split
 ·exact Qr
 ·split
  ·exact Qr
  ·exact A7w (Rm (A1x _ _) h) fun u hu => Rm (D2z i) hu
theorem A7d {t : T} {c : Cl} (h : Ro t) : Ro (B0 t c).2 := by
 unfold B0
 split
 ·exact Qr
 ·split
  ·exact Qr
  ·exact A7w (A8l h) fun u hu => A8l hu
theorem C5f {f : List Cl} (h : A2 f = true) : B9 f := by
 have h1 := (Cr h).1
 refine ⟨fun c hc => ?_, by have := F8 h1; unfold reach; omega⟩
 obtain ⟨h2, h3⟩ := D6.mp (List.all_eq_true.mp (Ht h1) c hc)
 exact ⟨by omega, by omega⟩
theorem B2a {a b : Cl} (h : Av a = true) (h2 : Av b = true) : Av (Dr a b) = true := by
 obtain ⟨a1, a2⟩ := D6.mp h
 obtain ⟨b1, b2⟩ := D6.mp h2
 exact D6.mpr ⟨Nat.or_lt_two_pow (n := 24) a1 b1, Nat.or_lt_two_pow (n := 24) a2 b2⟩
theorem B0o {f g : List Cl} (h : f.all Av = true) (h2 : g.all Av = true) : (Ij f g).all Av = true := List.all_eq_true.mpr fun c hc => by
 obtain ⟨a, ha, hc⟩ := List.mem_flatMap.mp hc
 obtain ⟨b, hb, rfl⟩ := List.mem_map.mp hc
 exact B2a (List.all_eq_true.mp h a ha) (List.all_eq_true.mp h2 b hb)
theorem D9b {f g : List Cl} (h : f.all Av = true) (h2 : g.all Av = true) : (f ++ g).all Av = true := by rw [List.all_append, h, h2]; rfl
theorem A4d {f : List Cl} (h : (Kg f).1 = 0) : A9 (Kg f).2 = true :=
 Ox (g := Dh) (L := f) (I := fun pre h => A9 h = true) (fun pre c h hc hi h0 => by
  unfold Dh at h0 ⊢
  obtain ⟨a1, a2, a3⟩ := Eb h0
  rw [a3]
  exact Fo a2) f [] [A6] K1 (fun c hc => hc) h
theorem E4v {c : Cl} (h : Av c = true) : A9 [c] = true := by
 unfold A9
 simp [h, Q3, apart]
theorem W7 {k n : Int} {nm : ByteArray} {r : List Cl} (h : G3 k n nm r) : (k = 14 → A2 r = true) ∧ A9 r = true := by
 obtain ⟨_, _, h3, h4, h5, h6, h7⟩ := h
 refine ⟨h6, ?_⟩
 by_cases e : k = 13 ∨ k = 21 ∨ k = 26
 ·exact h5 e
 ·by_cases e2 : k = 14
  ·exact (Cr (h6 e2)).1
  ·rw [h7 A3]; decide
theorem D4b {l : List Cl} (h : l ≠ []) (h0 : (Am l).1 = 0) : (Am l).2 ≠ [] := by
 rcases Ha l with ⟨_, _, h2, _⟩ | h2 | h2
 ·rw [h2]
  cases l with
  | nil => exact absurd rfl h
  | cons c l =>
   obtain ⟨d, hd, _⟩ := Tl _ c (Nat.le_refl _) (List.mem_cons_self (a := c) (l := l))
   intro e
   rw [e] at hd
   cases hd
 ·rw [h2] at h0; cases h0
 ·rw [h2] at h0; cases h0
theorem D1y {P : List Cl → Int → List Cl → EL} {i d : Int} {r f : List Cl} (h : C8 (E5 f) (i + d) = false) : Cw P i r d f = (0, f) := by
 unfold Cw
 rw [if_pos h]
section
variable {D D' : Nat → Prop} {f g l r : List Cl} {c : Cl} {i : Int}
end
structure D6b (W : Dt) : Prop where
 form : ∀ d f, 0 ≤ d → A9 f = true → (W.form d f).1 = 0 ∧ A9 (W.form d f).2 = true
 An : ∀ d f, 0 ≤ d → A2 f = true → (W.An d f).1 = 0 ∧ A2 (W.An d f).2 = true
 nil : ∀ d, W.form d [] = (0, [])
theorem C6v {W : Dt} (hW : D6b W) {k n d : Int} {nm : ByteArray} {r : List Cl} (hd : 0 ≤ d) (h : G3 k n nm r) : (W.row k d r).1 = 0 ∧ G3 k n nm (W.row k d r).2 := by
 have h0 := h
 obtain ⟨h1, h2, h3, h4, h5, h6, h7⟩ := h
 obtain ⟨q1, q2⟩ := W7 h0
 unfold Dt.row
 by_cases e : k = 14
 ·rw [if_pos e]
  obtain ⟨a1, a2⟩ := hW.An d r hd (h6 e)
  exact ⟨a1, h1, h2, fun h => by omega, fun h => by omega, fun h => by omega, fun _ => a2, fun h => by omega⟩
 ·rw [if_neg e]
  obtain ⟨a1, a2⟩ := hW.form d r hd q2
  refine ⟨a1, h1, h2, fun h => ⟨?_, (h3 h).2⟩, fun h => ⟨?_, (h4 h).2⟩, fun h => a2, fun h => absurd h e, fun h => ?_⟩
  ·rw [(h3 h).1, hW.nil]
  ·rw [(h4 h).1, hW.nil]
  ·rw [h7 h, hW.nil]
theorem Xa {W : Dt} (hW : D6b W) : ∀ (t : T) {d : Int}, Dy t → 0 ≤ d → ∃ u, C1 (Az W) t d = .ok u := T.ind fun t ih d hf hd => by
 have hhead := (N7.mp hf).1
 refine D6n (I4 (C6v hW hd hhead).1) (fun b hb => ?_) (fun p hp => ?_)
 ·have h1 := (hW.An d b.An hd (Uc hf hb)).1
  by_cases h2 : (W.An d b.An).2.length = 0
  ·exact ⟨none, Pf h1 h2⟩
  ·exact ⟨some _, Pe h1 h2⟩
 ·have h1 := A3p hp
  obtain ⟨u, hu⟩ := ih p hp (E8 hf hp) (d := d + p.2.2) A3
  exact ⟨_, u, rfl, hu⟩
section
variable {W : Dt}
end
theorem D0t (N : Wd) (f b : Int) : shW (coW N) f b = coW (shW N f b) := by
 funext j
 unfold shW coW
 by_cases h : (j : Int) < f
 ·simp only [if_pos h]
 ·simp only [if_neg h]
def atP (r : List Cl) (d : Int) (P N : Wd) : Prop := sat r (shW P 0 d) (shW N 0 d)
def atN (r : List Cl) (d : Int) (P N : Wd) : Prop := ¬ sat r (coW (shW N 0 d)) (coW (shW P 0 d))
theorem B8u {r : List Cl} {d : Int} {P N : Wd} (h : (Aa r 0 d).1 = 0) : sat (Aa r 0 d).2 P N ↔ atP r d P N := B5p h
theorem B8v {r : List Cl} {d : Int} {P N : Wd} (h : (Aa r 0 d).1 = 0) : (¬ sat (Aa r 0 d).2 (coW N) (coW P)) ↔ atN r d P N := by
 unfold atN
 rw [B5p h, D0t, D0t]
theorem B5n {f r x : List Cl} {i d : Int} {P N : Wd} (hf : A9 f = true) (h : Cw Bb i r d f = (0, x)) : A9 x = true ∧ (sat x P N ↔ sat f (ovr P (i + d) (atP r d P N)) (ovr N (i + d) (atN r d P N))) := by
 unfold Cw at h
 split at h
 ·rename_i h1
  injection h with _ h
  subst h
  exact ⟨hf, (B5q (Ht hf) h1).symm⟩
 ·obtain ⟨a1, a2, a3⟩ := Eb (by rw [h] : (Ix (Aa r 0 d) fun s => Bb f (i + d) s).1 = 0)
  rw [a3] at h
  have h0 : (Bb f (i + d) (Aa r 0 d).2).1 = 0 := by rw [h]
  have hx : x = (Bb f (i + d) (Aa r 0 d).2).2 := by rw [h]
  rw [hx]
  refine ⟨C1m h0, ?_⟩
  rw [(B5r h0).2.2.2]
  rw [propext (B8u (P := P) (N := N) a1), propext (B8v (P := P) (N := N) a1)]
theorem B5o {f r x : List Cl} {i d : Int} (hf : A2 f = true) (h : Cw B2 i r d f = (0, x)) : A2 x = true ∧ ∀ P N, Yn P N → (sat x P N ↔ sat f (ovr P (i + d) (atP r d P N)) (ovr N (i + d) (atN r d P N))) := by
 unfold Cw at h
 split at h
 ·rename_i h1
  injection h with _ h
  subst h
  exact ⟨hf, fun P N _ => (B5q (Ht (Cr hf).1) h1).symm⟩
 ·obtain ⟨a1, a2, a3⟩ := Eb (by rw [h] : (Ix (Aa r 0 d) fun s => B2 f (i + d) s).1 = 0)
  rw [a3] at h
  have h0 : (B2 f (i + d) (Aa r 0 d).2).1 = 0 := by rw [h]
  have hx : x = (B2 f (i + d) (Aa r 0 d).2).2 := by rw [h]
  rw [hx]
  refine ⟨(A0l h0).2.2.2.1, fun P N hw => ?_⟩
  rw [(A0l h0).2.2.2.2 P N hw]
  rw [propext (B8u (P := P) (N := N) a1), propext (B8v (P := P) (N := N) a1)]
end Go.Hy
