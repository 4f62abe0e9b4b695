/- Contracts of this program's functions and the laws that they need. -/
import Derived.Lib.TrailingZeros
import Derived.LaidMore
import Derived.OpenShut
import Derived.Stop.Joined
import Derived.MakeChecks
import Derived.Shelf.Spec.TrailingZeros
import Derived.Test.YtpfjlbopkhdebaaGreatDoorP6
set_option linter.unusedVariables false
set_option linter.unusedSimpArgs false
set_option linter.unusedSectionVars false
namespace Go.Hy
def Sy (k n : Int) (nm : ByteArray) (r : List Cl) : Prop :=
 (k ≠ 1 → n = 0) ∧ (k ≠ 2 → nm.toList = (ByteArray.mk #[]).toList) ∧ (k = 1 → r = [] ∧ 0 ≤ n) ∧ (k = 2 → r = [] ∧ Jm nm = true) ∧ (k = 13 ∨ k = 21 ∨ k = 26 → Aa r = true) ∧ (k = 14 → A8 r = true) ∧ (k ≠ 13 ∧ k ≠ 21 ∧ k ≠ 26 ∧ k ≠ 14 → r = [])
mutual
def Ep : T → Prop
 | .mk k n nm r ks ss => Sy k n nm r ∧ D4 k = (ks.length : Int) ∧ (Cs k = 0 → ss = []) ∧ Lv ks ∧ T1 k ss
def Lv : List T → Prop
 | [] => True
 | t :: ts => Ep t ∧ Lv ts
def T1 (k : Int) : List Br → Prop
 | [] => True
 | .mk f ks :: bs => (ks.length : Int) = Cs k ∧ A8 f = true ∧ Lv ks ∧ T1 k bs
end
theorem Hm {k : Int} (h : k = 1 ∨ k = 2 ∨ k = 13 ∨ k = 21 ∨ k = 26 ∨ k = 14) : Cs k = 0 := by
 unfold Cs
 rcases h with h | h | h | h | h | h <;> subst h <;> decide
theorem Xu (l : List Cl) {d : Int} (h : 24 ≤ d) : within l d = true := by unfold within; rw [decide_eq_true h]; rfl
theorem len_nil {α : Type} {l : List α} : ((l.length : Int) = 0) ↔ l = [] := by
 constructor
 ·intro h; exact List.eq_nil_of_length_eq_zero A2
 ·rintro rfl; rfl
theorem Qj {k n : Int} {nm : ByteArray} {r : List Cl} {ks : List T} {ss : List Br} {d : Int} (hd : 24 ≤ d) : M9 (.mk k n nm r ks ss) (-1) d = true ↔ Sy k n nm r ∧ D4 k = (ks.length : Int) ∧ (Cs k = 0 → ss = []) ∧ ∀ b, b ∈ ss → (b.kids.length : Int) = Cs k ∧ A8 b.B1 = true := by
 have hB : ∀ b : Br, Mx (.mk k n nm r ks ss) d b = (decide ((b.kids.length : Int) = Cs k) && A8 b.B1) := fun b => by
  unfold Mx; rw [Xu _ hd, Bool.and_true]; rfl
 have hL : (0 : Int) < (ss.length : Int) ↔ ss ≠ [] := by
  constructor
  ·intro h e; subst e; simp at h
  ·intro h; have := List.length_pos_iff.mpr h; omega
 have hs : ∀ p : Bool, (ss.all (Mx (.mk k n nm r ks ss) d) = true) ↔ ∀ b, b ∈ ss → (b.kids.length : Int) = Cs k ∧ A8 b.B1 = true := fun _ => by
  rw [List.all_eq_true]
  exact forall_congr' fun b => forall_congr' fun _ => by rw [hB]; simp
 unfold M9 Jb Sy
 simp only [T.kind, T.n, T.name, T.r, T.kids, T.sys, Xu _ hd, Bool.and_true, Bool.and_eq_true, Bool.not_eq_true', Bool.or_eq_false_iff, Bool.and_eq_false_iff, decide_eq_false_iff_not, Decidable.not_not, ne_eq, Int.not_lt, Bool.not_eq_false', beq_iff_eq]
 constructor
 ·rintro ⟨⟨⟨⟨h1, h2⟩, h3⟩, h4⟩, h5⟩
  replace h1 : D4 k = (ks.length : Int) := Decidable.not_not.mp (of_decide_eq_false h1)
  replace h2 : k = 1 ∨ n = 0 := h2.imp (fun h => Decidable.not_not.mp (of_decide_eq_false h)) (fun h => Decidable.not_not.mp (of_decide_eq_false h))
  replace h3 : k = 2 ∨ nm.toList = (ByteArray.mk #[]).toList := h3.imp (fun h => Decidable.not_not.mp (of_decide_eq_false h)) id
  replace h4 : ¬ Cs k = 0 ∨ ¬ (0 : Int) < (ss.length : Int) := h4.imp (fun h => of_decide_eq_false h) (fun h => of_decide_eq_false h)
  have hss : Cs k = 0 → ss = [] := by
   intro h
   rcases h4 with h4 | h4
   ·exact absurd h h4
   ·exact List.eq_nil_of_length_eq_zero A2
  split at h5
  ·rename_i hk
   have he := hss (Hm A2)
   subst he
   simp only [Bool.and_eq_true, decide_eq_true_eq] at h5
   exact ⟨⟨by omega, fun _ => h3.resolve_left A2, fun _ => ⟨len_nil.mp (of_decide_eq_true h5.1.1), of_decide_eq_true h5.1.2⟩, by omega, by omega, by omega, fun _ => len_nil.mp (of_decide_eq_true h5.1.1)⟩, h1, hss, fun b hb => by cases hb⟩
  ·split at h5
   ·rename_i hk1 hk
    have he := hss (Hm A2)
    subst he
    simp only [Bool.and_eq_true, decide_eq_true_eq] at h5
    exact ⟨⟨by omega, fun h => absurd hk h, by omega, fun _ => ⟨len_nil.mp (of_decide_eq_true h5.1), h5.2⟩, by omega, by omega, fun _ => len_nil.mp (of_decide_eq_true h5.1)⟩, h1, hss, fun b hb => by cases hb⟩
   ·split at h5
    ·rename_i hk1 hk2 hk
     have he := hss (Hm A2)
     subst he
     exact ⟨⟨by omega, fun _ => h3.resolve_left A2, by omega, by omega, fun _ => h5, by omega, by omega⟩, h1, hss, fun b hb => by cases hb⟩
    ·split at h5
     ·rename_i hk1 hk2 hk3 hk
      have he := hss (Hm A2)
      subst he
      exact ⟨⟨by omega, fun _ => h3.resolve_left A2, by omega, by omega, by omega, fun _ => h5, by omega⟩, h1, hss, fun b hb => by cases hb⟩
     ·rename_i hk1 hk2 hk3 hk4
      simp only [Bool.and_eq_true, decide_eq_true_eq] at h5
      exact ⟨⟨by omega, fun _ => h3.resolve_left A2, by omega, by omega, by omega, by omega, fun _ => len_nil.mp (of_decide_eq_true h5.2)⟩, h1, hss, (hs true).mp h5.1⟩
 ·rintro ⟨⟨a1, a2, a3, a4, a5, a6, a7⟩, b1, b2, b3⟩
  refine ⟨⟨⟨⟨decide_eq_false (Decidable.not_not.mpr b1), ?_⟩, ?_⟩, ?_⟩, ?_⟩
  ·by_cases h : k = 1
   ·exact .inl (decide_eq_false (Decidable.not_not.mpr h))
   ·exact .inr (decide_eq_false (Decidable.not_not.mpr (a1 h)))
  ·by_cases h : k = 2
   ·exact .inl (decide_eq_false (Decidable.not_not.mpr h))
   ·exact .inr (a2 h)
  ·by_cases h : Cs k = 0
   ·exact .inr (decide_eq_false (by rw [b2 h]; decide))
   ·exact .inl (decide_eq_false h)
  ·split
   ·rename_i h; simp [(a3 h).1, (a3 h).2]
   ·split
    ·rename_i h; simp [(a4 h).1, (a4 h).2]
    ·split
     ·rename_i h; exact a5 h
     ·split
      ·rename_i h; exact a6 h
      ·rename_i h1 h2 h3 h4
       rw [Bool.and_eq_true, (hs true)]
       exact ⟨b3, by simp [a7 A2]⟩
theorem Tp : ∀ {ts : List T}, Lv ts ↔ ∀ t, t ∈ ts → Ep t
 | [] => by simp [Lv]
 | t :: ts => by simp [Lv, Tp (ts := ts)]
theorem Yu {k : Int} : ∀ {bs : List Br}, T1 k bs ↔ ∀ b, b ∈ bs → (b.kids.length : Int) = Cs k ∧ A8 b.B1 = true ∧ Lv b.kids
 | [] => by simp [T1]
 | .mk f ks :: bs => by
  simp only [T1, Yu (bs := bs), List.forall_mem_cons, Br.kids, Br.B1]
  constructor
  ·rintro ⟨h1, h2, h3, h4⟩; exact ⟨⟨h1, h2, h3⟩, h4⟩
  ·rintro ⟨⟨h1, h2, h3⟩, h4⟩; exact ⟨h1, h2, h3, h4⟩
theorem Qq {t : T} : Ep t ↔ Sy t.kind t.n t.name t.r ∧ D4 t.kind = (t.kids.length : Int) ∧ (Cs t.kind = 0 → t.sys = []) ∧ Lv t.kids ∧ T1 t.kind t.sys := by
 obtain ⟨k, n, nm, r, ks, ss⟩ := t
 simp only [Ep, T.kind, T.n, T.name, T.r, T.kids, T.sys]
theorem Vc {t : T} : Ep t ↔ (∀ d : Int, 24 ≤ d → M9 t (-1) d = true) ∧ ∀ p, p ∈ parts t → Ep p.1 := by
 rw [Qq, Tp, Yu]
 have ho : ∀ d : Int, 24 ≤ d → (M9 t (-1) d = true ↔ Sy t.kind t.n t.name t.r ∧ D4 t.kind = (t.kids.length : Int) ∧ (Cs t.kind = 0 → t.sys = []) ∧ ∀ b, b ∈ t.sys → (b.kids.length : Int) = Cs t.kind ∧ A8 b.B1 = true) := by
  intro d hd
  obtain ⟨k, n, nm, r, ks, ss⟩ := t
  exact Qj hd
 constructor
 ·rintro ⟨h1, h2, h3, h4, h5⟩
  refine ⟨fun d hd => (ho d hd).mpr ⟨h1, h2, h3, fun b hb => ⟨(h5 b hb).1, (h5 b hb).2.1⟩⟩, fun p hp => ?_⟩
  rcases V5 hp with ⟨i, hi, rfl⟩ | ⟨s, k, hs, hk, rfl⟩
  ·exact h4 _ (Ac hi)
  ·exact Tp.mp (h5 _ (Ac hs)).2.2 _ (Ac hk)
 ·rintro ⟨h1, h2⟩
  obtain ⟨a1, a2, a3, a4⟩ := (ho 24 A2).mp (h1 24 A2)
  refine ⟨a1, a2, a3, fun k hk => ?_, fun b hb => ⟨(a4 b hb).1, (a4 b hb).2, Tp.mpr fun k hk => ?_⟩⟩
  ·obtain ⟨p, hp, e⟩ := H2 hk; exact e ▸ h2 p hp
  ·obtain ⟨p, hp, e⟩ := Gy hb hk; exact e ▸ h2 p hp
theorem D3q : ∀ (t : T) (d : Int), 24 ≤ d → (Hx t (-1) d false = true ↔ Ep t) := T.ind fun t ih d hd => by
 rw [B1g, Vc]
 have hw : ∀ p : Part, IntKind.i64.wrap (-1 + if (-1 : Int) < 0 then 0 else p.2.1) = -1 := fun p => by rw [if_pos Jp]; decide
 constructor
 ·rintro ⟨_, h2, h3⟩
  refine ⟨fun d' hd' => ?_, fun p hp => ?_⟩
  ·obtain ⟨k, n, nm, r, ks, ss⟩ := t
   exact (Qj hd').mpr ((Qj hd).mp h2)
  ·have h4 := h3 p hp
   rw [hw] at h4
   have h5 := A2c hp
   exact (ih p hp (d + p.2.2) A2).mp h4
 ·rintro ⟨h1, h2⟩
  refine ⟨by simp, h1 d hd, fun p hp => ?_⟩
  rw [hw]
  have h5 := A2c hp
  exact (ih p hp (d + p.2.2) A2).mpr (h2 p hp)
theorem T0 {t : T} : C0 t = 0 ↔ sized t = 0 ∧ Ep t := by rw [B5c, D3q t 24 A2]
section
variable {C : Type} {A : Tr C}
end
section
variable {CA CB CC : Type} {A : Tr CA} {B : Tr CB} {D : Tr CC} (R : CA → CB → CC → Prop)
variable {R}
end
section
variable {CA CC : Type} {A : Tr CA} {D : Tr CC} (R : CA → CC → Prop)
variable {R}
end
theorem R8 {s : Nat} {f b : Int} (h : (Aj s f b).1 = 0) (i : Nat) : 0 ≤ f ∧ 0 ≤ b ∧ (Aj s f b).2.testBit i = ((decide (i < min f.toNat 24) && (s &&& 16777215).testBit i) || (decide (min f.toNat 24 + b.toNat ≤ i) && (s &&& 16777215).testBit (i - b.toNat))) := by
 by_cases h0 : f < 0 ∨ b < 0
 ·rw [Aj, if_pos h0] at h; cases h
 ·have hq : ∀ j, (s &&& 16777215).testBit j = true → j < 24 := fun j hj => by rw [Fq, Bool.and_eq_true, decide_eq_true_eq] at hj; exact hj.1
  refine ⟨by omega, by omega, ?_⟩
  generalize hF : min f.toNat 24 = F at *
  by_cases h1 : Bi (s &&& 16777215) (2 ^ (min f.toNat 24) - 1) = 0
  ·rw [Aj, if_neg h0, if_pos h1]
   show ((s &&& 16777215) &&& (2 ^ (min f.toNat 24) - 1)).testBit i = _
   rw [hF] at h1 ⊢
   rw [Nat.testBit_and, Mt]
   have h2 : (decide (F + b.toNat ≤ i) && (s &&& 16777215).testBit (i - b.toNat)) = false := by
    cases h3 : (s &&& 16777215).testBit (i - b.toNat) with
    | false => rw [Bool.and_false]
    | true =>
     rw [Bool.and_true]
     refine decide_eq_false (fun h4 => ?_)
     have h5 : (Bi (s &&& 16777215) (2 ^ F - 1)).testBit (i - b.toNat) = true := by
      rw [G0, Mt, h3, decide_eq_true (by have := hq _ h3; omega), decide_eq_false A2]; rfl
     rw [h1, Nat.zero_testBit] at h5
     cases h5
   rw [h2, Bool.or_false, Bool.and_comm]
  ·by_cases h2 : 24 ≤ b ∨ 16777215 < Bi (s &&& 16777215) (2 ^ (min f.toNat 24) - 1) * 2 ^ b.toNat
   ·rw [Aj, if_neg h0, if_neg h1, if_pos h2] at h; cases h
   ·rw [Aj, if_neg h0, if_neg h1, if_neg h2]
    show (((s &&& 16777215) &&& (2 ^ (min f.toNat 24) - 1)) ||| (Bi (s &&& 16777215) (2 ^ (min f.toNat 24) - 1) * 2 ^ b.toNat)).testBit i = _
    rw [hF, Nat.testBit_or, Nat.testBit_and, Mt, Nat.testBit_mul_two_pow, G0, Mt]
    cases h3 : (s &&& 16777215).testBit (i - b.toNat) with
    | false => simp [Bool.and_comm]
    | true =>
     have h4 := hq _ h3
     rw [decide_eq_true (show i - b.toNat < 32 by omega)]
     simp only [Bool.and_true, Bool.true_and]
     rw [Bool.and_comm]
     congr 1
     by_cases h5 : F + b.toNat ≤ i
     ·rw [decide_eq_true (show b.toNat ≤ i by omega), decide_eq_false (show ¬ i - b.toNat < F by omega), decide_eq_true h5]; rfl
     ·rw [decide_eq_false h5]
      by_cases h6 : b.toNat ≤ i
      ·rw [decide_eq_true h6, decide_eq_true (show i - b.toNat < F by omega)]; rfl
      ·rw [decide_eq_false h6]; rfl
theorem C7g {c : Cl} {f b : Int} (h : (B0 c f b).1 = 0) : Ao c = true ∧ (Aj c.pos f b).1 = 0 ∧ (Aj c.neg f b).1 = 0 ∧ (B0 c f b).2 = ⟨(Aj c.pos f b).2, (Aj c.neg f b).2⟩ := by
 unfold B0 at h ⊢
 split at h
 ·cases h
 ·rename_i h1
  split at h
  ·rename_i h2; exact absurd h h2
  ·rename_i h2
   split at h
   ·rename_i h3; exact absurd h h3
   ·rename_i h3
    rw [if_neg h1, if_neg h2, if_neg h3]
    exact ⟨by simpa using h1, Decidable.not_not.mp h2, Decidable.not_not.mp h3, rfl⟩
theorem Hu (l : List Cl) : ((Ax l).1 = 0 ∧ l.all Ao = true ∧ (Ax l).2 = E2 l ∧ (E2 l).length ≤ 64) ∨ (Ax l).1 = 2 ∨ (Ax l).1 = 3 := by
 unfold Ax
 split
 ·exact .inr (.inl rfl)
 ·rename_i h1
  split
  ·exact .inr (.inr rfl)
  ·rename_i h2
   exact .inl ⟨rfl, by simpa using h1, rfl, by omega⟩
theorem Gl {l : List Cl} (h : (Ax l).1 = 0) : Aa (Ax l).2 = true := by
 rcases Hu l with ⟨_, h1, h2, h3⟩ | h1 | h1
 ·rw [h2]
  unfold Aa
  rw [Bool.and_eq_true, Bool.and_eq_true, Bool.and_eq_true]
  refine ⟨⟨⟨List.all_eq_true.mpr fun c hc => List.all_eq_true.mp h1 c (F8.mp hc).1, Oy.mpr (K8 l)⟩, Z3.mpr fun a ha b hb => Li.mp (F8.mp ha).2 b (F8.mp hb).1⟩, decide_eq_true h3⟩
 ·rw [h1] at h; cases h
 ·rw [h1] at h; cases h
theorem O5 {l : List Cl} (h : (Ax l).1 = 0) {c : Cl} (hc : c ∈ (Ax l).2) : c ∈ l := by
 rcases Hu l with ⟨_, h1, h2, h3⟩ | h1 | h1
 ·rw [h2] at hc; exact (F8.mp hc).1
 ·rw [h1] at h; cases h
 ·rw [h1] at h; cases h
theorem A3g {l : List Cl} {f b : Int} (h : (An l f b).1 = 0) : Aa l = true ∧ (∀ c, c ∈ l → (B0 c f b).1 = 0) ∧ An l f b = Ax (l.map fun c => (B0 c f b).2) := by
 unfold An at h ⊢
 split at h
 ·cases h
 ·rename_i h1
  split at h
  ·rename_i h2; exact absurd h h2
  ·rename_i h2
   have h3 : (Fw (fun c => B0 c f b) l).1 = 0 := Decidable.not_not.mp h2
   rw [if_neg h1, if_neg h2]
   exact ⟨by simpa using h1, A7i.mp h3, by rw [C6s h3]⟩
theorem Ve : Aa [] = true := by decide
theorem Xc (f b : Int) : An [] f b = (0, []) := by
 unfold An
 rw [if_neg (by rw [Ve]; decide)]
 have h : Fw (fun c => B0 c f b) [] = (0, []) := rfl
 rw [h, if_neg Jp]
 exact Uj.mp Ve
theorem B2x (f b : Int) : Cp b [] f = .ok [] := by
 unfold Cp
 rw [Xc]
 simp
section
variable {C : Type} {A : Tr C}
end
theorem Zo {vb db : Int} {c : Int × Int} {k n : Int} {nm : ByteArray} {r : List Cl} : (Ct vb db).own c k n nm r = (Cp db r c.2).bind fun r' => if k = 1 ∧ c.1 ≤ n ∧ 1000000000 - vb < n then .bad 100 else .ok (.inr (H5 vb c.1 k n, r')) := by
 simp only [Ct, H5]
 congr 1
 funext g
 by_cases h1 : k = 1 ∧ c.1 ≤ n
 ·rw [if_pos h1, if_pos h1]
  by_cases h2 : 1000000000 - vb < n
  ·rw [if_pos h2, if_pos ⟨h1.1, h1.2, h2⟩]
  ·rw [if_neg h2, if_neg (fun h => h2 h.2.2)]
 ·rw [if_neg h1, if_neg h1, if_neg (fun h => h1 ⟨h.1, h.2.1⟩)]
theorem Uh {vb db : Int} {c : Int × Int} {f : List Cl} : (Ct vb db).B1 c f = (Cp db f c.2).bind fun f' => .ok (some f') := rfl
theorem A3w (c : Cl) (f b : Int) : (B0 c f b).1 = 0 ∨ (B0 c f b).1 = 2 ∨ (B0 c f b).1 = 10 := by
 have hm : ∀ s, (Aj s f b).1 = 0 ∨ (Aj s f b).1 = 2 ∨ (Aj s f b).1 = 10 := fun s => by
  unfold Aj
  split
  ·exact .inr (.inl rfl)
  ·split
   ·exact .inl rfl
   ·split
    ·exact .inr (.inr rfl)
    ·exact .inl rfl
 unfold B0
 split
 ·exact .inr (.inl rfl)
 ·split
  ·exact hm _
  ·split
   ·exact hm _
   ·exact .inl rfl
def Lw (r : B9 T) : Int × T := match r with
 | .ok u => (0, u)
 | .bad e => (e, t0)
theorem D2k {t : T} {ns : List Int} {r : B9 T} (h : C0 t = 0) (h2 : ns.all (fun n => decide (0 ≤ n)) = true) : Cm t ns r = Lw r := by
 cases r with
 | ok u => exact B5a h h2 rfl
 | bad e => exact A7e h h2 rfl
theorem C5v {b : Int} (h0 : 0 ≤ b) (h1 : b ≤ 1000000) : 0 ≤ Dm b := by rw [C2f (by unfold Ak; omega) h0]; omega
def C2p (v d : Int) (k n : Int) (r : List Cl) : Prop := d ≤ 24 ∧ (k = 1 → n < v) ∧ within r d = true
mutual
def A0j : T → Int → Int → Prop
 | .mk k n nm r ks ss, v, d => C2p v d k n r ∧ C5z k 0 ks v d ∧ C6a k ss v d
def C5z (k : Int) : Nat → List T → Int → Int → Prop
 | _, [], _, _ => True
 | i, t :: ts, v, d => A0j t (v + (binds k i).1) (d + (binds k i).2) ∧ C5z k (i + 1) ts v d
def C5y (k : Int) : List T → Int → Int → Prop
 | [], _, _ => True
 | t :: ts, v, d => A0j t v (d + more k) ∧ C5y k ts v d
def C6a (k : Int) : List Br → Int → Int → Prop
 | [], _, _ => True
 | .mk f ks :: bs, v, d => within f d = true ∧ C5y k ks v d ∧ C6a k bs v d
end
theorem Ur (d : Int) : within [] d = true := by
 unfold within
 rw [show Dl [] = 0 from rfl, Nat.zero_div]
 simp
theorem Sl {t : T} {d : Int} {b : Br} : Mx t d b = true ↔ ((b.kids.length : Int) = Cs t.kind ∧ A8 b.B1 = true) ∧ within b.B1 d = true := by
 unfold Mx
 rw [Bool.and_eq_true, Bool.and_eq_true, decide_eq_true_iff]
theorem D0m {t : T} {v d : Int} (hv : 0 ≤ v) : M9 t v d = true ↔ M9 t (-1) 24 = true ∧ (t.kind = 1 → t.n < v) ∧ within t.r d = true ∧ ∀ b, b ∈ t.sys → within b.B1 d = true := by
 rw [Wt, Wt]
 have hsys : ∀ (h : Jb t = false), Cs t.kind = 0 → t.sys = [] := fun h h0 => by
  unfold Jb at h
  rw [Bool.or_eq_false_iff, Bool.and_eq_false_iff] at h
  rcases h.2 with h2 | h2
  ·exact absurd h0 (of_decide_eq_false h2)
  ·exact List.eq_nil_of_length_eq_zero (by have := of_decide_eq_false h2; omega)
 have hw24 : ∀ l : List Cl, within l 24 = true := fun l => Xu l A2
 constructor
 ·rintro ⟨h1, h2⟩
  refine (fun (h : (if t.kind = 1 then t.r.length = 0 ∧ 0 ≤ t.n ∧ ((-1 : Int) < 0 ∨ t.n < -1) else if t.kind = 2 then t.r.length = 0 ∧ Jm t.name = true else if t.kind = 13 ∨ t.kind = 21 ∨ t.kind = 26 then Aa t.r = true ∧ within t.r 24 = true else if t.kind = 14 then A8 t.r = true ∧ within t.r 24 = true else (∀ x, x ∈ t.sys → Mx t 24 x = true) ∧ t.r.length = 0) ∧ (t.kind = 1 → t.n < v) ∧ within t.r d = true ∧ ∀ b, b ∈ t.sys → within b.B1 d = true) => ⟨⟨h1, h.1⟩, h.2⟩) ?_
  split at h2
  ·rename_i hk
   have hs := hsys h1 (Hm A2)
   rw [hs, List.eq_nil_of_length_eq_zero h2.1]
   exact ⟨by rw [if_pos hk]; exact ⟨rfl, h2.2.1, .inl Jp⟩, fun _ => by omega, Ur d, fun b hb => (by cases hb)⟩
  ·rename_i hk1
   rw [if_neg hk1]
   split at h2
   ·rename_i hk
    have hs := hsys h1 (Hm A2)
    rw [hs, List.eq_nil_of_length_eq_zero h2.1]
    exact ⟨by rw [if_pos hk]; exact ⟨rfl, h2.2⟩, fun h => absurd h hk1, Ur d, fun b hb => (by cases hb)⟩
   ·rename_i hk2
    rw [if_neg hk2]
    split at h2
    ·rename_i hk
     have hs := hsys h1 (Hm A2)
     rw [hs]
     exact ⟨by rw [if_pos hk]; exact ⟨h2.1, hw24 _⟩, fun h => absurd h hk1, h2.2, fun b hb => (by cases hb)⟩
    ·rename_i hk3
     rw [if_neg hk3]
     split at h2
     ·rename_i hk
      have hs := hsys h1 (Hm A2)
      rw [hs]
      exact ⟨by rw [if_pos hk]; exact ⟨h2.1, hw24 _⟩, fun h => absurd h hk1, h2.2, fun b hb => (by cases hb)⟩
     ·rename_i hk4
      rw [if_neg hk4, List.eq_nil_of_length_eq_zero h2.2]
      exact ⟨⟨fun x hx => Sl.mpr ⟨(Sl.mp (h2.1 x hx)).1, hw24 _⟩, rfl⟩, fun h => absurd h hk1, Ur d, fun b hb => (Sl.mp (h2.1 b hb)).2⟩
 ·rintro ⟨⟨h1, h2⟩, h3, h4, h5⟩
  refine ⟨h1, ?_⟩
  split at h2
  ·rename_i hk; rw [if_pos hk]; exact ⟨h2.1, h2.2.1, .inr (h3 hk)⟩
  ·rename_i hk1
   rw [if_neg hk1]
   split at h2
   ·rename_i hk; rw [if_pos hk]; exact h2
   ·rename_i hk2
    rw [if_neg hk2]
    split at h2
    ·rename_i hk; rw [if_pos hk]; exact ⟨h2.1, h4⟩
    ·rename_i hk3
     rw [if_neg hk3]
     split at h2
     ·rename_i hk; rw [if_pos hk]; exact ⟨h2.1, h4⟩
     ·rename_i hk4
      rw [if_neg hk4]
      exact ⟨fun x hx => Sl.mpr ⟨(Sl.mp (h2.1 x hx)).1, h5 x hx⟩, h2.2⟩
theorem B4j {k v d : Int} : ∀ {ts : List T} {i : Nat}, C5z k i ts v d ↔ ∀ j, j < ts.length → A0j (ts.getD j t0) (v + (binds k ((i + j : Nat) : Int)).1) (d + (binds k ((i + j : Nat) : Int)).2)
 | [], i => by simp [C5z]
 | t :: ts, i => by
  simp only [C5z, B4j (ts := ts) (i := i + 1)]
  constructor
  ·rintro ⟨h1, h2⟩ j hj
   cases j with
   | zero => simpa using h1
   | succ j => rw [List.getD_cons_succ, show i + (j + 1) = i + 1 + j by omega]; exact h2 j (by simpa using hj)
  ·intro h
   refine ⟨by simpa using h 0 E5, fun j hj => ?_⟩
   have := h (j + 1) (by simpa using hj)
   rw [List.getD_cons_succ, show i + (j + 1) = i + 1 + j by omega] at this
   exact this
theorem A2t {k v d : Int} : ∀ {ts : List T}, C5y k ts v d ↔ ∀ j, j < ts.length → A0j (ts.getD j t0) v (d + more k)
 | [] => by simp [C5y]
 | t :: ts => by
  simp only [C5y, A2t (ts := ts)]
  constructor
  ·rintro ⟨h1, h2⟩ j hj
   cases j with
   | zero => simpa using h1
   | succ j => rw [List.getD_cons_succ]; exact h2 j (by simpa using hj)
  ·intro h
   exact ⟨by simpa using h 0 E5, fun j hj => by have := h (j + 1) (by simpa using hj); rwa [List.getD_cons_succ] at this⟩
theorem B4k {k v d : Int} : ∀ {bs : List Br}, C6a k bs v d ↔ ∀ b, b ∈ bs → within b.B1 d = true ∧ C5y k b.kids v d
 | [] => by simp [C6a]
 | .mk f ks :: bs => by
  simp only [C6a, B4k (bs := bs), List.forall_mem_cons, Br.B1, Br.kids, and_assoc]
theorem D1n {t : T} {v d : Int} : A0j t v d ↔ C2p v d t.kind t.n t.r ∧ (∀ b, b ∈ t.sys → within b.B1 d = true) ∧ ∀ p, p ∈ parts t → A0j p.1 (v + p.2.1) (d + p.2.2) := by
 have h : A0j t v d ↔ C2p v d t.kind t.n t.r ∧ C5z t.kind 0 t.kids v d ∧ C6a t.kind t.sys v d := by
  obtain ⟨k, n, nm, r, ks, ss⟩ := t
  simp only [A0j, T.kind, T.n, T.r, T.kids, T.sys]
 rw [h, B4j, B4k]
 constructor
 ·rintro ⟨h1, h2, h3⟩
  refine ⟨h1, fun b hb => (h3 b hb).1, fun p hp => ?_⟩
  rcases V5 hp with ⟨i, hi, rfl⟩ | ⟨s, k, hs, hk, rfl⟩
  ·have := h2 i hi; rw [Nat.zero_add] at this; exact this
  ·have := A2t.mp (h3 _ (Ac (d := Bq) hs)).2 k hk; simpa using this
 ·rintro ⟨h1, h2, h3⟩
  refine ⟨h1, fun j hj => ?_, fun b hb => ⟨h2 b hb, A2t.mpr fun k hk => ?_⟩⟩
  ·have := h3 _ (List.mem_of_getElem? (F3 t j hj)); rw [Nat.zero_add]; exact this
  ·obtain ⟨s, hs, e⟩ := List.mem_iff_getElem.mp hb
   have e2 : t.sys.getD s Bq = b := by rw [Eo (d := Bq) hs]; exact e
   have := h3 _ (List.mem_of_getElem? (Fm t s k hs (by rw [e2]; exact hk)))
   rw [e2] at this
   simpa using this
theorem B4i : ∀ (t : T) (v d : Int), 0 ≤ v → v + size t ≤ 9000000000000000000 → (Hx t v d true = true ↔ Ep t ∧ A0j t v d) := T.ind fun t ih v d h0 hb => by
 rw [B1g, D0m h0, D1n, Vc]
 have hown : M9 t (-1) 24 = true ↔ ∀ d' : Int, 24 ≤ d' → M9 t (-1) d' = true := by
  constructor
  ·intro h d' hd'
   obtain ⟨k, n, nm, r, ks, ss⟩ := t
   exact (Qj hd').mpr ((Qj A2).mp h)
  ·intro h; exact h 24 A2
 have key : ∀ p, p ∈ parts t → (Hx p.1 (IntKind.i64.wrap (v + if v < 0 then 0 else p.2.1)) (d + p.2.2) true = true ↔ Ep p.1 ∧ A0j p.1 (v + p.2.1) (d + p.2.2)) := fun p hp => by
  have h1 := A2c hp
  have h2 := Lc hp
  rw [if_neg A2, A8s (by unfold Ak; omega)]
  exact ih p hp _ _ A2 A2
 rw [hown]
 unfold C2p
 constructor
 ·rintro ⟨h1, ⟨h2, h3, h4, h5⟩, h6⟩
  exact ⟨⟨h2, fun p hp => ((key p hp).mp (h6 p hp)).1⟩, ⟨by simp at h1; omega, h3, h4⟩, h5, fun p hp => ((key p hp).mp (h6 p hp)).2⟩
 ·rintro ⟨⟨h2, h6⟩, ⟨h1, h3, h4⟩, h5, h7⟩
  exact ⟨by simp; omega, ⟨h2, h3, h4, h5⟩, fun p hp => (key p hp).mpr ⟨h6 p hp, h7 p hp⟩⟩
theorem C4p {t : T} {v d : Int} (hv : 0 ≤ v) (hb : v ≤ 1000000000000) : Fc t v d = 0 ↔ 0 ≤ d ∧ d ≤ 24 ∧ sized t = 0 ∧ Ep t ∧ A0j t v d := by
 rw [B7j]
 constructor
 ·rintro ⟨_, h2, h3, h4, h5⟩
  have := (A1m.mp h4).2
  exact ⟨h2, h3, h4, (B4i t v d hv A2).mp h5⟩
 ·rintro ⟨h2, h3, h4, h5⟩
  have := (A1m.mp h4).2
  exact ⟨hv, h2, h3, h4, (B4i t v d hv A2).mpr h5⟩
section
variable {C : Type} {A : Tr C}
end
theorem Spec.Xa {P : Program} {k : FuncId} {args : Array Value} {pre : List Fact} {Ms0 : List Bj} {α X : Type} (r : α) {val : α → X → Value} {N : α → X → List Fact} {Ms1 : α → X → List Bj} (h : Spec P k args pre Ms0 (val r) (N r) (Ms1 r)) :
  Spec P k args pre Ms0 (fun x : {x : α × X // x.1 = r} => val x.1.1 x.1.2) (fun x => N x.1.1 x.1.2) (fun x => Ms1 x.1.1 x.1.2) := fun ok w hk hs => (h ok w hk hs).mono fun e w' hh => by
 obtain ⟨x, he, hs'⟩ := hh
 exact ⟨⟨(r, x), rfl⟩, he, hs'⟩
section
variable {C : Type} {A : Tr C}
theorem B2c {k : Int} {c : C} : ∀ {ts us : List T} {i : Nat}, Fb A k i ts c = .ok us → us.length = ts.length ∧ ∀ j, j < us.length → ∃ c', A.S2 c (binds k ((i + j : Nat) : Int)) = .ok c' ∧ Cq A (ts.getD j t0) c' = .ok (us.getD j t0)
 | [], us, i, h => by rw [Gh] at h; injection h with h; subst h; exact ⟨rfl, fun j hj => absurd hj E5⟩
 | t :: ts, us, i, h => by
  rw [G6] at h
  obtain ⟨c', h1, h⟩ := B9.Ai h
  obtain ⟨t', h2, h⟩ := B9.Ai h
  obtain ⟨ts', h3, h⟩ := B9.Ai h
  injection h with h
  subst h
  obtain ⟨h4, h5⟩ := B2c h3
  refine ⟨by simp [h4], fun j hj => ?_⟩
  cases j with
  | zero => exact ⟨c', by simpa using h1, by simpa using h2⟩
  | succ j =>
   obtain ⟨d, h6, h7⟩ := h5 j (by simpa using hj)
   exact ⟨d, by rw [show i + (j + 1) = i + 1 + j by omega]; exact h6, by rw [List.getD_cons_succ, List.getD_cons_succ]; exact h7⟩
theorem B2b {k : Int} {c : C} : ∀ {ts us : List T}, Ee A k ts c = .ok us → us.length = ts.length ∧ ∀ j, j < us.length → ∃ c', A.S2 c (0, more k) = .ok c' ∧ Cq A (ts.getD j t0) c' = .ok (us.getD j t0)
 | [], us, h => by rw [Gg] at h; injection h with h; subst h; exact ⟨rfl, fun j hj => absurd hj E5⟩
 | t :: ts, us, h => by
  rw [G5] at h
  obtain ⟨c', h1, h⟩ := B9.Ai h
  obtain ⟨t', h2, h⟩ := B9.Ai h
  obtain ⟨ts', h3, h⟩ := B9.Ai h
  injection h with h
  subst h
  obtain ⟨h4, h5⟩ := B2b h3
  refine ⟨by simp [h4], fun j hj => ?_⟩
  cases j with
  | zero => exact ⟨c', h1, by simpa using h2⟩
  | succ j =>
   obtain ⟨d, h6, h7⟩ := h5 j (by simpa using hj)
   exact ⟨d, h6, by rw [List.getD_cons_succ, List.getD_cons_succ]; exact h7⟩
theorem A1h {k : Int} {c : C} : ∀ {bs us : List Br}, F6 A k bs c = .ok us → us.length ≤ bs.length ∧ ∀ u, u ∈ us → ∃ b, b ∈ bs ∧ A.B1 c b.B1 = .ok (some u.B1) ∧ Ee A k b.kids c = .ok u.kids
 | [], us, h => by rw [G2] at h; injection h with h; subst h; exact ⟨Nat.le_refl _, fun u hu => (by cases hu)⟩
 | b :: bs, us, h => by
  rw [G7] at h
  obtain ⟨o, h1, h⟩ := B9.Ai h
  cases o with
  | none =>
   obtain ⟨h4, h5⟩ := A1h h
   exact ⟨by simp only [List.length_cons]; omega, fun u hu => by obtain ⟨x, hx, h6⟩ := h5 u hu; exact ⟨x, List.mem_cons_of_mem _ hx, h6⟩⟩
  | some f' =>
   obtain ⟨ks', h2, h⟩ := B9.Ai h
   obtain ⟨bs', h3, h⟩ := B9.Ai h
   injection h with h
   subst h
   obtain ⟨h4, h5⟩ := A1h h3
   refine ⟨by simp only [List.length_cons]; omega, fun u hu => ?_⟩
   rcases List.mem_cons.mp hu with rfl | hu
   ·exact ⟨b, List.mem_cons_self, h1, h2⟩
   ·obtain ⟨x, hx, h6⟩ := h5 u hu; exact ⟨x, List.mem_cons_of_mem _ hx, h6⟩
theorem Qo {α : Type} {d x : α} {l : List α} (h : x ∈ l) : ∃ i, i < l.length ∧ l.getD i d = x := by
 obtain ⟨i, hi, e⟩ := List.mem_iff_getElem.mp h
 exact ⟨i, hi, by rw [Eo (d := d) hi]; exact e⟩
theorem B2a {t u : T} {c : C} (h : Cq A t c = .ok u) : A.own c t.kind t.n t.name t.r = .ok (.inl u) ∨ ∃ p, A.own c t.kind t.n t.name t.r = .ok (.inr p) ∧ (u.kind = t.kind ∧ u.n = p.1 ∧ u.name = t.name ∧ u.r = p.2) ∧
  (∀ q, q ∈ parts u → ∃ p, p ∈ parts t ∧ p.2 = q.2 ∧ ∃ c', A.S2 c p.2 = .ok c' ∧ Cq A p.1 c' = .ok q.1) ∧ ∀ b', b' ∈ u.sys → ∃ b, b ∈ t.sys ∧ A.B1 c b.B1 = .ok (some b'.B1) := by
 rw [Mg] at h
 obtain ⟨o, h1, h⟩ := B9.Ai h
 cases o with
 | inl v => injection h with h; subst h; exact .inl h1
 | inr p =>
  obtain ⟨ks', h2, h⟩ := B9.Ai h
  obtain ⟨ss', h3, h⟩ := B9.Ai h
  injection h with h
  subst h
  obtain ⟨l1, l2⟩ := B2c h2
  obtain ⟨b1, b2⟩ := A1h h3
  refine .inr ⟨p, h1, ⟨rfl, rfl, rfl, rfl⟩, fun q hq => ?_, fun b' hb' => ?_⟩
  ·rcases V5 hq with ⟨i, hi, rfl⟩ | ⟨s, j, hs, hj, rfl⟩
   ·simp only [T.kids, T.kind] at hi ⊢
    obtain ⟨c', h4, h5⟩ := l2 i hi
    exact ⟨_, List.mem_of_getElem? (F3 t i A2), rfl, c', by rw [Nat.zero_add] at h4; exact h4, h5⟩
   ·simp only [T.sys, T.kind] at hs hj ⊢
    obtain ⟨b, hb, _, h6⟩ := b2 _ (Ac (d := Bq) hs)
    obtain ⟨h7, h8⟩ := B2b h6
    obtain ⟨c', h9, h10⟩ := h8 j hj
    obtain ⟨s', hs', e⟩ := Qo (d := Bq) hb
    refine ⟨_, List.mem_of_getElem? (Fm t s' j hs' (by rw [e]; omega)), rfl, c', h9, ?_⟩
    rw [e]; exact h10
  ·obtain ⟨b, hb, h6, _⟩ := b2 b' hb'
   exact ⟨b, hb, h6⟩
theorem D8 {α β : Type} {x : B9 α} {k : α → B9 β} {e : Int} (h : x.bind k = .bad e) : x = .bad e ∨ ∃ a, x = .ok a ∧ k a = .bad e := by
 cases x with
 | ok a => exact .inr ⟨a, rfl, h⟩
 | bad e' => injection h with h; subst h; exact .inl rfl
theorem A5s {k : Int} {c : C} {e : Int} : ∀ {ts : List T} {i : Nat}, Fb A k i ts c = .bad e → ∃ j, j < ts.length ∧ (A.S2 c (binds k ((i + j : Nat) : Int)) = .bad e ∨ ∃ c', A.S2 c (binds k ((i + j : Nat) : Int)) = .ok c' ∧ Cq A (ts.getD j t0) c' = .bad e)
 | [], i, h => by rw [Gh] at h; cases h
 | t :: ts, i, h => by
  rw [G6] at h
  rcases D8 h with h | ⟨c', h1, h⟩
  ·exact ⟨0, by simp, .inl (by simpa using h)⟩
  ·rcases D8 h with h | ⟨t', h2, h⟩
   ·exact ⟨0, by simp, .inr ⟨c', by simpa using h1, by simpa using h⟩⟩
   ·rcases D8 h with h | ⟨ts', h3, h⟩
    ·obtain ⟨j, hj, h4⟩ := A5s h
     refine ⟨j + 1, by simpa using hj, ?_⟩
     rw [List.getD_cons_succ, show i + (j + 1) = i + 1 + j by omega]; exact h4
    ·cases h
theorem A5p {k : Int} {c : C} {e : Int} : ∀ {ts : List T}, Ee A k ts c = .bad e → ∃ j, j < ts.length ∧ (A.S2 c (0, more k) = .bad e ∨ ∃ c', A.S2 c (0, more k) = .ok c' ∧ Cq A (ts.getD j t0) c' = .bad e)
 | [], h => by rw [Gg] at h; cases h
 | t :: ts, h => by
  rw [G5] at h
  rcases D8 h with h | ⟨c', h1, h⟩
  ·exact ⟨0, by simp, .inl h⟩
  ·rcases D8 h with h | ⟨t', h2, h⟩
   ·exact ⟨0, by simp, .inr ⟨c', h1, by simpa using h⟩⟩
   ·rcases D8 h with h | ⟨ts', h3, h⟩
    ·obtain ⟨j, hj, h4⟩ := A5p h
     exact ⟨j + 1, by simpa using hj, by rw [List.getD_cons_succ]; exact h4⟩
    ·cases h
theorem Y1 {k : Int} {c : C} {e : Int} : ∀ {bs : List Br}, F6 A k bs c = .bad e → ∃ b, b ∈ bs ∧ (A.B1 c b.B1 = .bad e ∨ Ee A k b.kids c = .bad e)
 | [], h => by rw [G2] at h; cases h
 | b :: bs, h => by
  rw [G7] at h
  rcases D8 h with h | ⟨o, h1, h⟩
  ·exact ⟨b, List.mem_cons_self, .inl h⟩
  ·cases o with
   | none => obtain ⟨x, hx, h⟩ := Y1 h; exact ⟨x, List.mem_cons_of_mem _ hx, h⟩
   | some f' =>
    rcases D8 h with h | ⟨ks, h2, h⟩
    ·exact ⟨b, List.mem_cons_self, .inr h⟩
    ·rcases D8 h with h | ⟨us, h3, h⟩
     ·obtain ⟨x, hx, h⟩ := Y1 h; exact ⟨x, List.mem_cons_of_mem _ hx, h⟩
     ·cases h
theorem Wb {t : T} {c : C} {e : Int} (h : Cq A t c = .bad e) : A.own c t.kind t.n t.name t.r = .bad e ∨ (∃ b, b ∈ t.sys ∧ A.B1 c b.B1 = .bad e) ∨ ∃ p, p ∈ parts t ∧ (A.S2 c p.2 = .bad e ∨ ∃ c', A.S2 c p.2 = .ok c' ∧ Cq A p.1 c' = .bad e) := by
 rw [Mg] at h
 rcases D8 h with h | ⟨o, h1, h⟩
 ·exact .inl h
 ·cases o with
  | inl u => cases h
  | inr p =>
   rcases D8 h with h | ⟨ks, h2, h⟩
   ·obtain ⟨j, hj, h3⟩ := A5s h
    rw [Nat.zero_add] at h3
    exact .inr (.inr ⟨_, List.mem_of_getElem? (F3 t j hj), h3⟩)
   ·rcases D8 h with h | ⟨ss, h3, h⟩
    ·obtain ⟨b, hb, h4⟩ := Y1 h
     rcases h4 with h4 | h4
     ·exact .inr (.inl ⟨b, hb, h4⟩)
     ·obtain ⟨j, hj, h5⟩ := A5p h4
      obtain ⟨s, hs, e2⟩ := Qo (d := Bq) hb
      refine .inr (.inr ⟨_, List.mem_of_getElem? (Fm t s j hs (by rw [e2]; exact hj)), ?_⟩)
      rw [e2]; exact h5
    ·cases h
end
theorem C6w {l : List Cl} {i : Nat} : (Dl l).testBit i = true ↔ i < 24 ∧ ∃ c, c ∈ l ∧ (c.pos ||| c.neg).testBit i = true := by
 unfold Dl
 rw [Fq, Bool.and_eq_true, decide_eq_true_eq, B5e (fun c : Cl => c.pos ||| c.neg)]
 simp
theorem A4v {s : Nat} {f b : Int} (h : (Aj s f b).1 = 0) (i : Nat) (hi : (Aj s f b).2.testBit i = true) : ∃ j, j < 24 ∧ s.testBit j = true ∧ (((j : Int) < f ∧ i = j) ∨ (f ≤ (j : Int) ∨ 24 ≤ j) ∧ (i : Int) = j + b) := by
 obtain ⟨h0, h1, h2⟩ := R8 h i
 rw [h2, Bool.or_eq_true, Bool.and_eq_true, Bool.and_eq_true, decide_eq_true_eq, decide_eq_true_eq, Fq, Fq, Bool.and_eq_true, Bool.and_eq_true, decide_eq_true_eq, decide_eq_true_eq] at hi
 rcases hi with ⟨h3, h4, h5⟩ | ⟨h3, h4, h5⟩
 ·exact ⟨i, h4, h5, .inl ⟨by omega, rfl⟩⟩
 ·exact ⟨i - b.toNat, h4, h5, .inr ⟨by omega, by omega⟩⟩
theorem B5j {t : T} (h : Ep t) : Aa t.r = true := by
 obtain ⟨_, _, _, _, h13, h14, h0⟩ := (Qq.mp h).1
 by_cases h1 : t.kind = 13 ∨ t.kind = 21 ∨ t.kind = 26
 ·exact h13 h1
 ·by_cases h2 : t.kind = 14
  ·have := h14 h2
   unfold A8 at this
   rw [Bool.and_eq_true] at this
   exact this.1
  ·rw [h0 A2]; exact Ve
theorem A7k {t : T} (h : Ep t) {b : Br} (hb : b ∈ t.sys) : A8 b.B1 = true := (Yu.mp (Qq.mp h).2.2.2.2 b hb).2.1
theorem Gn {t : T} (h : Ep t) {p : Part} (hp : p ∈ parts t) : Ep p.1 := (Vc.mp h).2 p hp
theorem B5l {l : List Cl} (h : A8 l = true) : Aa l = true := by
 unfold A8 at h
 rw [Bool.and_eq_true] at h
 exact h.1
def vE (n : Int) : T := .mk 1 n ⟨#[]⟩ [] [] []
theorem C7y {t : T} {f b : Int} (hb : Ak b) (h : Rw t) : Rw (E4 t f b).2 := by
 refine guard_okT' (fun ha u hu => ?_)
 simp only [List.all_cons, List.all_nil, Bool.and_true, Bool.and_eq_true, decide_eq_true_eq] at ha
 exact D1t ⟨ha.2.1, C2g hb ha.2.1 ha.2.2⟩ h hu
def Km : List T → Nat
 | [] => 0
 | t :: ts => size t + Km ts
def Ue : List Br → Nat
 | [] => 0
 | b :: bs => Km b.kids + Ue bs
theorem foldl_add {α : Type} (f : α → Nat) : ∀ (l : List α) (a : Nat), l.foldl (fun a p => a + f p) a = a + l.foldl (fun a p => a + f p) 0
 | [], a => rfl
 | x :: l, a => by rw [List.foldl_cons, List.foldl_cons, foldl_add f l (a + f x), foldl_add f l (0 + f x)]; omega
theorem R0 (t : T) : size t = 1 + Km t.kids + Ue t.sys := by
 have hk : ∀ (k : Int) (ts : List T) (i : Nat), (Em k i ts).foldl (fun a p => a + size p.1) 0 = Km ts := by
  intro k ts
  induction ts with
  | nil => intro i; rfl
  | cons t ts ih => intro i; rw [Em, List.foldl_cons, foldl_add, ih, Km]; simp only; omega
 have hm : ∀ (ts : List T) (b : Int × Int), (ts.map fun k => ((k, b.1, b.2) : Part)).foldl (fun a p => a + size p.1) 0 = Km ts := by
  intro ts b
  induction ts with
  | nil => rfl
  | cons t ts ih => rw [List.map_cons, List.foldl_cons, foldl_add, ih, Km]; simp only; omega
 have hs : ∀ (k : Int) (bs : List Br), (Di k bs).foldl (fun a p => a + size p.1) 0 = Ue bs := by
  intro k bs
  induction bs with
  | nil => rfl
  | cons b bs ih => rw [Di, List.foldl_append, foldl_add, ih, hm b.kids (0, more k), Ue]
 rw [size_eq, parts, List.foldl_append, foldl_add, hs, foldl_add, hk]
section
variable {t u : T} {n : Int}
end
theorem Je {s : Nat} {f b : Int} (h : (Aj s f b).1 = 0) (i : Nat) : (Aj s f b).2.testBit i = true ↔ ∃ j, j < 24 ∧ s.testBit j = true ∧ (((j : Int) < f ∧ i = j) ∨ (f ≤ (j : Int) ∧ (i : Int) = j + b)) := by
 obtain ⟨h0, h1, h2⟩ := R8 h i
 constructor
 ·intro hi
  obtain ⟨j, h3, h4, h5⟩ := A4v h i hi
  exact ⟨j, h3, h4, by omega⟩
 ·rintro ⟨j, h3, h4, h5⟩
  rw [h2, Bool.or_eq_true, Bool.and_eq_true, Bool.and_eq_true, decide_eq_true_eq, decide_eq_true_eq, Fq, Fq, Bool.and_eq_true, Bool.and_eq_true, decide_eq_true_eq, decide_eq_true_eq]
  rcases h5 with ⟨h5, rfl⟩ | ⟨h5, h6⟩
  ·exact .inl ⟨by omega, h3, h4⟩
  ·refine .inr ⟨by omega, ?_⟩
   rw [show i - b.toNat = j by omega]
   exact ⟨h3, h4⟩
theorem A6y {s : Nat} {f b : Int} (hs : s < 16777216) (h0 : 0 ≤ f) (hb : 0 ≤ b) (h : b = 0 ∨ 24 ≤ f) : Aj s f b = (0, s) := by
 have hs24 : s &&& 16777215 = s := by rw [A0f]; exact Nat.mod_eq_of_lt hs
 have h1 : (Aj s f b).1 = 0 := by
  unfold Aj
  rw [if_neg A2]
  split
  ·rfl
  ·rename_i h2
   rw [if_neg]
   rintro (h3 | h3)
   ·rcases h with h | h
    ·omega
    ·refine h2 ?_
     refine Nat.eq_of_testBit_eq fun i => ?_
     rw [G0, Mt, Nat.zero_testBit, Fq, show min f.toNat 24 = 24 by omega]
     by_cases hi : i < 24 <;> simp [hi]
   ·rcases h with h | h
    ·subst h
     have := A8e (q := s &&& 16777215) (m := 2 ^ min f.toNat 24 - 1) (I4 s)
     simp at h3
     omega
    ·refine h2 ?_
     refine Nat.eq_of_testBit_eq fun i => ?_
     rw [G0, Mt, Nat.zero_testBit, Fq, show min f.toNat 24 = 24 by omega]
     by_cases hi : i < 24 <;> simp [hi]
 refine Prod.ext h1 ?_
 refine Nat.eq_of_testBit_eq fun i => ?_
 rw [Bool.eq_iff_iff, Je h1]
 have hlt : ∀ j, s.testBit j = true → j < 24 := fun j hj => by
  refine Nat.lt_of_not_le fun hge => ?_
  rw [Nat.testBit_lt_two_pow (Nat.lt_of_lt_of_le hs (Nat.pow_le_pow_right (n := 2) (i := 24) A2 hge))] at hj
  cases hj
 constructor
 ·rintro ⟨j, h2, h3, h4⟩
  rw [show i = j by omega]; exact h3
 ·intro h2
  exact ⟨i, hlt i h2, h2, by have := hlt i h2; omega⟩
theorem B0v {l : List Cl} (h : Aa l = true) : (∀ c, c ∈ l → Ao c = true) ∧ apart l = true := by
 unfold Aa at h
 simp only [Bool.and_eq_true, List.all_eq_true] at h
 exact ⟨h.1.1.1, h.1.2⟩
theorem Cw {c : Cl} : Ao c = true ↔ c.pos < 16777216 ∧ c.neg < 16777216 := by unfold Ao; rw [Bool.and_eq_true, decide_eq_true_eq, decide_eq_true_eq]
section
variable {CA CB CC CD : Type} {A : Tr CA} {B : Tr CB} {C : Tr CC} {D : Tr CD} (R : CA → CB → CC → CD → Prop)
variable {R}
end
theorem Qz : ∀ {l m : List Int}, (l.Pairwise fun a b => a < b) → (m.Pairwise fun a b => a < b) → (∀ x, x ∈ l ↔ x ∈ m) → l = m
 | [], [], _, _, _ => rfl
 | [], b :: m, _, _, h => by have := (h b).mpr List.mem_cons_self; cases this
 | a :: l, [], _, _, h => by have := (h a).mp List.mem_cons_self; cases this
 | a :: l, b :: m, hl, hm, h => by
  obtain ⟨l1, l2⟩ := List.pairwise_cons.mp hl
  obtain ⟨m1, m2⟩ := List.pairwise_cons.mp hm
  have hab : a = b := by
   rcases List.mem_cons.mp ((h a).mp List.mem_cons_self) with h1 | h1
   ·exact h1
   ·rcases List.mem_cons.mp ((h b).mpr List.mem_cons_self) with h2 | h2
    ·exact h2.symm
    ·have := l1 b h2; have := m1 a h1; omega
  subst hab
  have : l = m := Qz l2 m2 fun x => by
   constructor
   ·intro hx
    rcases List.mem_cons.mp ((h x).mp (List.mem_cons_of_mem _ hx)) with h1 | h1
    ·subst h1; have := l1 x hx; omega
    ·exact h1
   ·intro hx
    rcases List.mem_cons.mp ((h x).mpr (List.mem_cons_of_mem _ hx)) with h1 | h1
    ·subst h1; have := m1 x hx; omega
    ·exact h1
  rw [this]
def shI (f b x : Int) : Int := if x < f then x else x + b
theorem D1o {s : Nat} {f b x : Int} (h0 : 0 ≤ f) (hb : 0 ≤ b) (hx : x ∈ A3 s) (hf : f ≤ x) (h : 24 ≤ x + b) : Aj s f b = (10, 0) := by
 obtain ⟨x0, x1, x2⟩ := El.mp hx
 have hbit : (Bi (s &&& 16777215) (2 ^ (min f.toNat 24) - 1)).testBit x.toNat = true := by
  rw [G0, Mt, Fq, x2, decide_eq_true A2, decide_eq_true A2, decide_eq_false A2]; rfl
 have hge := Nat.ge_two_pow_of_testBit hbit
 unfold Aj
 rw [if_neg A2, if_neg (fun h1 => by rw [h1, Nat.zero_testBit] at hbit; cases hbit), if_pos]
 by_cases h24 : 24 ≤ b
 ·exact .inl h24
 ·right
  have h1 : 2 ^ x.toNat * 2 ^ b.toNat ≤ Bi (s &&& 16777215) (2 ^ (min f.toNat 24) - 1) * 2 ^ b.toNat := Nat.mul_le_mul_right _ hge
  rw [← Nat.pow_add] at h1
  have h2 : 2 ^ 24 ≤ 2 ^ (x.toNat + b.toNat) := Nat.pow_le_pow_right A2 A2
  have h3 : (2 : Nat) ^ 24 = 16777216 := by decide
  omega
theorem C6b {s : Nat} {f b : Int} (h0 : 0 ≤ f) (hb : 0 ≤ b) (h : ∀ x, x ∈ A3 s → x < f ∨ x + b < 24) : Aj s f b = (0, Hs ((A3 s).map (shI f b))) := by
 have h1 : (Aj s f b).1 = 0 := by
  unfold Aj
  rw [if_neg A2]
  split
  ·rfl
  ·rename_i h2
   rw [if_neg]
   have hbits : ∀ i, (Bi (s &&& 16777215) (2 ^ (min f.toNat 24) - 1)).testBit i = true → (i : Int) + b < 24 := fun i hi => by
    rw [G0, Mt, Fq] at hi
    simp only [Bool.and_eq_true, decide_eq_true_eq, Bool.not_eq_true', decide_eq_false_iff_not] at hi
    have hm : (i : Int) ∈ A3 s := El.mpr ⟨by omega, by omega, by simpa using hi.1.2.2⟩
    rcases h _ hm with h3 | h3 <;> omega
   obtain ⟨i, hi⟩ : ∃ i, (Bi (s &&& 16777215) (2 ^ (min f.toNat 24) - 1)).testBit i = true := by
    refine Classical.byContradiction fun hn => h2 (Nat.eq_of_testBit_eq fun i => ?_)
    rw [Nat.zero_testBit]
    cases hh : (Bi (s &&& 16777215) (2 ^ (min f.toNat 24) - 1)).testBit i with
    | false => rfl
    | true => exact absurd ⟨i, hh⟩ hn
   have hb24 := hbits i hi
   have hlt : Bi (s &&& 16777215) (2 ^ (min f.toNat 24) - 1) < 2 ^ (24 - b.toNat) := Nat.lt_pow_two_of_testBit _ fun j hj => by
    cases hh : (Bi (s &&& 16777215) (2 ^ (min f.toNat 24) - 1)).testBit j with
    | false => rfl
    | true => have := hbits j hh; omega
   rintro (h3 | h3)
   ·omega
   ·have h4 : Bi (s &&& 16777215) (2 ^ (min f.toNat 24) - 1) * 2 ^ b.toNat < 2 ^ (24 - b.toNat) * 2 ^ b.toNat := Nat.mul_lt_mul_of_pos_right hlt (Nat.pow_pos A2)
    rw [← Nat.pow_add, show 24 - b.toNat + b.toNat = 24 by omega] at h4
    have h5 : (2 : Nat) ^ 24 = 16777216 := by decide
    omega
 refine Prod.ext h1 ?_
 have hlt := Iu s f b
 have e1 : (Aj s f b).2 = Hs (A3 (Aj s f b).2) := by rw [Uy, A0f]; exact (Nat.mod_eq_of_lt hlt).symm
 rw [e1]
 show Hs _ = Hs _
 congr 1
 refine Qz (Pp _ _) ?_ fun x => ?_
 ·rw [List.pairwise_map]
  refine (Pp s 24).imp fun {a c} hac => ?_
  unfold shI
  split <;> split <;> omega
 ·rw [List.mem_map]
  constructor
  ·intro hx
   obtain ⟨x0, x1, x2⟩ := El.mp hx
   obtain ⟨j, h2, h3, h4⟩ := (Je h1 x.toNat).mp x2
   refine ⟨(j : Int), El.mpr ⟨by omega, by omega, by simpa using h3⟩, ?_⟩
   unfold shI
   split <;> omega
  ·rintro ⟨y, hy, rfl⟩
   obtain ⟨y0, y1, y2⟩ := El.mp hy
   have hsh : 0 ≤ shI f b y ∧ shI f b y < 24 := by
    unfold shI
    rcases h y hy with h2 | h2 <;> split <;> omega
   refine El.mpr ⟨hsh.1, hsh.2, (Je h1 _).mpr ⟨y.toNat, by omega, y2, ?_⟩⟩
   unfold shI at hsh ⊢
   split <;> omega
theorem Ra (s : Nat) : (A3 s).Pairwise fun a b => a < b := by
 unfold A3 Bv
 rw [List.pairwise_map]
 refine List.Pairwise.filter _ ?_
 exact List.pairwise_lt_range.imp fun h => by omega
theorem C6e (s : Nat) : A3 (s &&& 16777215) = A3 s := by
 refine Qz (Ra _) (Ra _) fun x => ?_
 rw [El, El, Fq]
 constructor
 ·rintro ⟨h1, h2, h3⟩
  rw [Bool.and_eq_true] at h3
  exact ⟨h1, h2, h3.2⟩
 ·rintro ⟨h1, h2, h3⟩
  exact ⟨h1, h2, by rw [h3, decide_eq_true A2]; rfl⟩
theorem C6d {r : Nat} (h0 : ¬ r = 0) (h : r < 4294967296) : ∃ m, r = 2 ^ Lib.ctz 32 r * (2 * m + 1) ∧ Lib.ctz 32 r < 32 := by
 obtain ⟨m, h1, h2⟩ := Lib.ctzFrom_spec 32 r A2 h
 have e : Lib.ctz 32 r = Lib.ctzFrom 32 r := by unfold Lib.ctz; rw [if_neg h0]
 rw [e]
 exact ⟨m, h1, h2⟩
theorem D5y {r k m i : Nat} (h : r = 2 ^ k * (2 * m + 1)) : (r &&& (r - 1)).testBit i = (r.testBit i && decide (i ≠ k)) ∧ r.testBit k = true ∧ (i < k → r.testBit i = false) := by
 have hp : 0 < 2 ^ k := Nat.pow_pos Jp
 have e1 : r = 2 ^ (k + 1) * m + 2 ^ k := by rw [h, Nat.pow_succ, Nat.mul_add, Nat.mul_assoc]; simp
 have e2 : r - 1 = 2 ^ (k + 1) * m + (2 ^ k - 1) := by omega
 have hb1 : 2 ^ k < 2 ^ (k + 1) := by rw [Nat.pow_succ]; omega
 have hb2 : 2 ^ k - 1 < 2 ^ (k + 1) := by omega
 have t1 : ∀ j, r.testBit j = if j < k + 1 then (2 ^ k).testBit j else m.testBit (j - (k + 1)) := fun j => by rw [e1]; exact Nat.testBit_two_pow_mul_add m hb1 j
 have t2 : ∀ j, (r - 1).testBit j = if j < k + 1 then (2 ^ k - 1).testBit j else m.testBit (j - (k + 1)) := fun j => by rw [e2]; exact Nat.testBit_two_pow_mul_add m hb2 j
 refine ⟨?_, by rw [t1, if_pos A2, Nat.testBit_two_pow_self], fun hi => by rw [t1, if_pos A2, Nat.testBit_two_pow_of_ne A2]⟩
 rw [Nat.testBit_and, t1, t2]
 by_cases hi : i < k + 1
 ·rw [if_pos hi, if_pos hi, Nat.testBit_two_pow, Nat.testBit_two_pow_sub_one]
  by_cases hk : k = i
  ·subst hk; simp
  ·simp [hk]
 ·rw [if_neg hi, if_neg hi]
  have : i ≠ k := by omega
  simp [this]
theorem A6z {r : Nat} (h0 : ¬ r = 0) (h : r < 16777216) : Lib.ctz 32 r < 24 ∧ A3 r = (Lib.ctz 32 r : Int) :: A3 (r &&& (r - 1)) := by
 obtain ⟨m, h1, h2⟩ := C6d h0 A2
 have hb := fun i => D5y (i := i) h1
 have hk : Lib.ctz 32 r < 24 := Decidable.byContradiction fun hn => by
  have h3 := Nat.ge_two_pow_of_testBit (hb 0).2.1
  have h4 : 2 ^ 24 ≤ 2 ^ Lib.ctz 32 r := Nat.pow_le_pow_right Jp A2
  omega
 refine ⟨hk, Qz (Ra _) (List.pairwise_cons.mpr ⟨fun x hx => ?_, Ra _⟩) fun x => ?_⟩
 ·obtain ⟨x0, x1, x2⟩ := El.mp hx
  rw [(hb x.toNat).1, Bool.and_eq_true, decide_eq_true_eq] at x2
  have : ¬ x.toNat < Lib.ctz 32 r := fun hlt => by have := (hb x.toNat).2.2 hlt; rw [x2.1] at this; cases this
  omega
 ·rw [List.mem_cons, El, El, (hb x.toNat).1, Bool.and_eq_true, decide_eq_true_eq]
  constructor
  ·rintro ⟨x0, x1, x2⟩
   by_cases hx : x = (Lib.ctz 32 r : Int)
   ·exact .inl hx
   ·exact .inr ⟨x0, x1, x2, by omega⟩
  ·rintro (rfl | ⟨x0, x1, x2, _⟩)
   ·exact ⟨by omega, by omega, by rw [Int.toNat_natCast]; exact (hb 0).2.1⟩
   ·exact ⟨x0, x1, x2⟩
theorem E0v {r : Nat} (h0 : ¬ r = 0) : r &&& (r - 1) < r := Nat.lt_of_le_of_lt Nat.and_le_right A2
def D9q : ByteArray := ⟨#[0, 1, 1, 2, 1, 2, 2, 3, 1, 2, 2, 3, 2, 3, 3, 4, 1, 2, 2, 3, 2, 3, 3, 4, 2, 3, 3, 4, 3, 4, 4, 5, 1, 2, 2, 3, 2, 3, 3, 4, 2, 3, 3, 4, 3, 4, 4, 5, 2, 3, 3, 4, 3, 4, 4, 5, 3, 4, 4, 5, 4, 5, 5, 6, 1, 2, 2, 3, 2, 3, 3, 4, 2, 3, 3, 4, 3, 4, 4, 5, 2, 3, 3, 4, 3, 4, 4, 5, 3, 4, 4, 5, 4, 5, 5, 6, 2, 3, 3, 4, 3, 4, 4, 5, 3, 4, 4, 5, 4, 5, 5, 6, 3, 4, 4, 5, 4, 5, 5, 6, 4, 5, 5, 6, 5, 6, 6, 7, 1, 2, 2, 3, 2, 3, 3, 4, 2, 3, 3, 4, 3, 4, 4, 5, 2, 3, 3, 4, 3, 4, 4, 5, 3, 4, 4, 5, 4, 5, 5, 6, 2, 3, 3, 4, 3, 4, 4, 5, 3, 4, 4, 5, 4, 5, 5, 6, 3, 4, 4, 5, 4, 5, 5, 6, 4, 5, 5, 6, 5, 6, 6, 7, 2, 3, 3, 4, 3, 4, 4, 5, 3, 4, 4, 5, 4, 5, 5, 6, 3, 4, 4, 5, 4, 5, 5, 6, 4, 5, 5, 6, 5, 6, 6, 7, 3, 4, 4, 5, 4, 5, 5, 6, 4, 5, 5, 6, 5, 6, 6, 7, 4, 5, 5, 6, 5, 6, 6, 7, 5, 6, 6, 7, 6, 7, 7, 8]⟩
def pop8 (j : Nat) : Nat := j % 2 + j / 2 % 2 + j / 4 % 2 + j / 8 % 2 + j / 16 % 2 + j / 32 % 2 + j / 64 % 2 + j / 128 % 2
theorem A1x : ∀ j, j < 256 → D9q[j]? = some (UInt8.ofNat (pop8 j)) ∧ pop8 j ≤ 8 := by decide +kernel
def Sj (s : Nat) : Nat := pop8 (s / 16777216) + pop8 (s / 65536 &&& 255) + pop8 (s / 256 &&& 255) + pop8 (s &&& 255)
theorem C4y : ∀ k, k < 24 → Sj (2 ^ k) = 1 := by decide +kernel
theorem B7r : Sj 0 = 0 := by decide
theorem B1f (s : Nat) : s &&& 255 < 256 := Nat.lt_of_le_of_lt Nat.and_le_right Jp
section
variable {tn : Bool} {pn : Nat} {P : Program} [Tab P] {f : FuncId} {R : Ending → World → Prop} {B : Cu} {n : Fz} {K : List Item} {ops : Array Oper} {i : Nat} {l fin : List Nat} {σ : Nat → Value} {Γ : List Fact} {Ms Ms2 : List Bj}
variable {dst : Option Tmp} {op : Op} {ty : TypeId} {pos : String} {after : Array Edge} {v : Value} {x y z : Operand}
theorem B3q {t : TypeId} {s : ByteArray} {j : Nat} (hu : Tab.und P t = some .string) (hx : ev σ x = .string s) (hs : s = D9q) (hy : ev σ y = .int .u32 (j : Int)) (hj : j < 256) : Cg P σ (.index t x y) ty (.int .u8 (pop8 j : Nat)) := fun w => by
 subst hs
 have h := (A1x j hj)
 have e : ((UInt8.ofNat (pop8 j)).toNat : Int) = (pop8 j : Nat) := by
  rw [UInt8.toNat_ofNat']
  have := h.2
  omega
 simp [Ch, execOp, hx, hy, Instr.index, asIntOf, Du hu, h.1]
 have := h.2
 omega
theorem D0i {t t' : TypeId} {a b : Nat} (hx : ev σ x = .int .u8 (a : Nat)) (hy : ev σ y = .int .u8 (b : Nat)) (h : a + b < 256) : Cg P σ (.binOp .add t x y t') ty (.int .u8 ((a + b : Nat) : Int)) :=
 Dp hx hy (fun w => C7 w) (fun w => by
  have e : IntKind.u8.wrap ((a : Int) + (b : Int)) = ((a + b : Nat) : Int) := by simp [IntKind.wrap, IntKind.signed, IntKind.bits]; omega
  show Result.ok (Value.int .u8 (IntKind.u8.wrap ((a : Int) + (b : Int)))) w = _
  rw [e])
theorem C5e {s d : TypeId} {ds : TypeDesc} {a : Nat} (hs : Tab.und P s = some ds) (hd : Tab.und P d = some (.int .i64)) (hx : ev σ x = .int .u8 (a : Nat)) (ha : a < 256) : Cg P σ (.convert s d x) ty (.int .i64 (a : Int)) := by
 have h := Kg hs hd hx (ty := ty)
 rwa [show IntKind.i64.wrap (a : Int) = (a : Int) by rw [IntKind.wrap_i64]; omega] at h
theorem A0n {t : TypeId} {s : ByteArray} {j : Nat} (k_ : NV tn pn P f R B n K ops fin l (Au σ dst (.int .u8 (pop8 j : Nat))) Γ Ms) (hx : ev σ x = .string s := by exact A5) (hy : ev σ y = .int .u32 (j : Int) := by exact A5) (hs : s = D9q := by rfl) (hu : Tab.und P t = some .string := by rfl) (hj : j < 256 := by first | omega | exact B1f _) (hd : Af n dst = true := by rfl) : L0 tn pn P f R B n K ops fin i l dst (.index t x y) ty σ Γ Ms := Dr (B3q hu hx hs hy hj) hd k_
theorem A8t {t t' : TypeId} {a b : Nat} (k_ : NV tn pn P f R B n K ops fin l (Au σ dst (.int .u8 ((a + b : Nat) : Int))) Γ Ms) (hx : ev σ x = .int .u8 (a : Nat) := by exact A5) (hy : ev σ y = .int .u8 (b : Nat) := by exact A5) (h : a + b < 256 := by omega) (hd : Af n dst = true := by rfl) : L0 tn pn P f R B n K ops fin i l dst (.binOp .add t x y t') ty σ Γ Ms := Dr (D0i hx hy h) hd k_
theorem C8a {s d : TypeId} {ds : TypeDesc} {a : Nat} (k_ : NV tn pn P f R B n K ops fin l (Au σ dst (.int .i64 (a : Int))) Γ Ms) (hx : ev σ x = .int .u8 (a : Nat) := by exact A5) (hs : Tab.und P s = some ds := by rfl) (hd' : Tab.und P d = some (.int .i64) := by rfl) (ha : a < 256 := by omega) (hd : Af n dst = true := by rfl) : L0 tn pn P f R B n K ops fin i l dst (.convert s d x) ty σ Γ Ms := Dr (C5e hs hd' hx ha) hd k_
end
theorem A2y {l : List Cl} (h : (Ax l).1 ≠ 0) : (Ax l).2 = [] := by
 unfold Ax at h ⊢
 split
 ·rfl
 ·rename_i h1
  rw [if_neg h1] at h
  split
  ·rfl
  ·rename_i h2
   rw [if_neg h2] at h
   exact absurd rfl h
theorem A4w {l : List Cl} {f b : Int} (hl : Aa l = true) (h0 : 0 ≤ f) (hb : 0 ≤ b) (h : b = 0 ∨ 24 ≤ f) : An l f b = (0, l) := by
 obtain ⟨hr, _⟩ := B0v hl
 have key : ∀ c, c ∈ l → B0 c f b = (0, c) := fun c hc => by
  obtain ⟨h2, h3⟩ := Cw.mp (hr c hc)
  unfold B0
  rw [if_neg (by rw [hr c hc]; simp), A6y h2 h0 hb h, A6y h3 h0 hb h]
  simp
 have hf : Fw (fun c => B0 c f b) l = (0, l) := by
  unfold Fw
  rw [List.find?_eq_none.mpr (fun c hc => by show ¬ decide ((B0 c f b).1 ≠ 0) = true; rw [key c hc]; simp)]
  simp only
  congr 1
  conv => rhs; rw [← List.map_id l]
  exact List.map_congr_left (fun c hc => by rw [key c hc]; rfl)
 unfold An
 rw [if_neg (by rw [hl]; simp), hf, if_neg E5]
 have := Rc l
 rw [hl, Bool.and_eq_true, decide_eq_true_eq, decide_eq_true_eq] at this
 exact Prod.ext this.1 this.2
theorem N5 {l : List Cl} {f b : Int} (hl : Aa l = true) (h0 : 0 ≤ f) (hb : 0 ≤ b) : Cp b l f = if (An l f b).1 = 0 then .ok (An l f b).2 else .bad (An l f b).1 := by
 unfold Cp
 by_cases h : b = 0 ∨ 24 ≤ f
 ·rw [if_pos h, A4w hl h0 hb h]; rfl
 ·rw [if_neg h]
theorem Xb {l : List Cl} {f b : Int} : 0 ≤ (An l f b).1 := by
 have hl : ∀ m : List Cl, 0 ≤ (Ax m).1 := fun m => by rcases Hu m with h | h | h <;> omega
 unfold An
 split
 ·exact (show (0 : Int) ≤ 2 by omega)
 ·split
  ·unfold Fw
   split
   ·rename_i c _
    rcases A3w c f b with h | h | h <;> (simp only; omega)
   ·exact Int.le_refl 0
  ·exact hl _
theorem A0s {l : List Cl} {f b : Int} : (An l f b).1 ≤ 10 := by
 have hl : ∀ m : List Cl, (Ax m).1 ≤ 10 := fun m => by rcases Hu m with h | h | h <;> omega
 unfold An
 split
 ·exact (show (2 : Int) ≤ 10 by omega)
 ·split
  ·unfold Fw
   split
   ·rename_i c _
    rcases A3w c f b with h | h | h <;> (simp only; omega)
   ·exact (show (0 : Int) ≤ 10 by omega)
  ·exact hl _
def J9 (e : Int) : T := .mk (-e) 0 ⟨#[]⟩ [] [] []
def Fx (vb db : Int) (t : T) (v d : Int) : T := match Cq (Ct vb db) t (v, d) with
 | .ok u => u
 | .bad e => J9 e
theorem A2w {vb db : Int} {t u : T} {v d : Int} (h : Cq (Ct vb db) t (v, d) = .ok u) : Fx vb db t v d = u := by unfold Fx; rw [h]
theorem Kr {vb db : Int} {t : T} {v d e : Int} (h : Cq (Ct vb db) t (v, d) = .bad e) : Fx vb db t v d = J9 e := by unfold Fx; rw [h]
theorem Zg {l : List Cl} {f b e : Int} (h : Cp b l f = .bad e) : 0 < e := by
 unfold Cp at h
 split at h
 ·cases h
 ·split at h
  ·cases h
  ·rename_i h2
   injection h with h
   have := Xb (l := l) (f := f) (b := b)
   omega
theorem B0g {vb db : Int} : ∀ (t : T) {c : Int × Int} {e : Int}, Cq (Ct vb db) t c = .bad e → 0 < e := T.ind fun t ih c e h => by
 rcases Wb h with h1 | ⟨b, _, h1⟩ | ⟨p, hp, h1 | ⟨c', _, h2⟩⟩
 ·rw [Zo] at h1
  rcases D8 h1 with h2 | ⟨g, _, h2⟩
  ·exact Zg h2
  ·split at h2
   ·injection h2 with h2; omega
   ·cases h2
 ·rw [Uh] at h1
  rcases D8 h1 with h2 | ⟨g, _, h2⟩
  ·exact Zg h2
  ·cases h2
 ·cases h1
 ·exact ih p hp h2
theorem Kw {t : T} (h : Ep t) : 0 ≤ t.kind := by
 have h2 := (Qq.mp h).2.1
 unfold D4 at h2
 repeat' split at h2
 all_goals omega
theorem C6f {vb db : Int} {t u : T} {c : Int × Int} (h : Cq (Ct vb db) t c = .ok u) : u.kind = t.kind := by
 rcases B2a h with h1 | ⟨p, _, h1, _⟩
 ·exact absurd h1 B0f
 ·exact h1.1
theorem Ks {vb db : Int} {t : T} {v d : Int} (hf : Ep t) : (Cq (Ct vb db) t (v, d) = .ok (Fx vb db t v d) ∧ 0 ≤ (Fx vb db t v d).kind) ∨ ∃ e, 0 < e ∧ Cq (Ct vb db) t (v, d) = .bad e ∧ Fx vb db t v d = J9 e := by
 cases h : Cq (Ct vb db) t (v, d) with
 | ok u =>
  rw [A2w h]
  exact .inl ⟨rfl, by rw [C6f h]; exact Kw hf⟩
 | bad e => exact .inr ⟨e, B0g t h, rfl, Kr h⟩
theorem J8 {e : Int} (h : 0 < e) : (J9 e).kind < 0 := by show -e < 0; omega
abbrev EL : Type := Int × List Cl
def E8 (i : Int) : Nat := if 0 ≤ i ∧ i < 24 then 2 ^ i.toNat else 0
def Jj (s : Nat) (i : Int) : Nat := if 0 ≤ i ∧ i < 24 then (s &&& 16777215) ||| 2 ^ i.toNat else s &&& 16777215
def Bd (s : Nat) (i : Int) : Nat := if 0 ≤ i ∧ i < 24 then Bi (s &&& 16777215) (2 ^ i.toNat) else s &&& 16777215
theorem Np (i : Int) : Jj 0 i = E8 i := by unfold Jj E8; split <;> simp
theorem Ln (i : Int) : E8 i < 16777216 := by
 unfold E8
 split
 ·exact Nat.pow_lt_pow_right (n := 24) (a := 2) Jp A2
 ·decide
theorem A0y (s : Nat) (i : Int) : Jj s i < 16777216 := by
 unfold Jj
 split
 ·exact Nat.or_lt_two_pow (n := 24) (by have := I4 s; omega) (Nat.pow_lt_pow_right (n := 24) (a := 2) Jp A2)
 ·exact I4 s
theorem G1 (s : Nat) (i : Int) : Bd s i < 16777216 := by
 unfold Bd
 split
 ·rw [show (16777216 : Nat) = 2 ^ 24 from rfl]
  exact Nat.lt_pow_two_of_testBit _ fun j hj => by
   rw [G0, Fq, decide_eq_false (show ¬ j < 24 by omega)]; simp
 ·exact I4 s
theorem D2j (s : Nat) (i : Int) : ((decide (0 ≤ i) && decide (i < 24)) && decide (((s / 2 ^ (min i.toNat 32) &&& 1 : Nat) : Int) = 1)) = Bu s i := by
 rw [P6, Nat.and_one_is_mod]
 by_cases h : 0 ≤ i ∧ i < 24
 ·rw [show min i.toNat 32 = i.toNat by omega]
  congr 1
  exact decide_eq_decide.mpr A2
 ·have : (decide (0 ≤ i) && decide (i < 24)) = false := by simp; omega
  rw [this]; rfl
def Gc (i : Int) : Bool := decide (0 ≤ i) && decide (i < 24)
theorem C1e {i : Int} (h : Gc i = true) : Sj (E8 i &&& 16777215) = 1 := by
 have h1 : 0 ≤ i ∧ i < 24 := by unfold Gc at h; simpa using h
 have h2 := Ln i
 rw [A0f, Nat.mod_eq_of_lt A2]
 unfold E8
 rw [if_pos h1]
 exact C4y _ A2
theorem B3j {i : Int} (h : Gc i = false) : Sj (E8 i &&& 16777215) = 0 := by
 have h1 : ¬ (0 ≤ i ∧ i < 24) := by unfold Gc at h; simp at h; omega
 unfold E8
 rw [if_neg h1]
 exact B7r
theorem D5a (i : Int) : decide (((Sj (E8 i &&& 16777215) : Nat) : Int) = 1) = Gc i := by
 cases h : Gc i
 ·rw [B3j h]; rfl
 ·rw [C1e h]; rfl
theorem B3k (i : Int) : decide (((Sj (E8 i &&& 16777215) : Nat) : Int) = 0) = !Gc i := by
 cases h : Gc i
 ·rw [B3j h]; rfl
 ·rw [C1e h]; rfl
def J0 (x : EL) (k : List Cl → EL) : EL := if x.1 ≠ 0 then (x.1, []) else k x.2
theorem Cd {x : EL} {k : List Cl → EL} (h : x.1 ≠ 0) : J0 x k = (x.1, []) := if_pos h
theorem Cc {x : EL} {k : List Cl → EL} (h : x.1 = 0) : J0 x k = k x.2 := if_neg (by simp [h])
def Cy (g : List Cl → Cl → EL) : List Cl → List Cl → EL
 | h, [] => (0, h)
 | h, c :: cs => J0 (g h c) fun h' => Cy g h' cs
theorem A3j {g : List Cl → Cl → EL} : ∀ {l m h h' : List Cl}, Cy g h l = (0, h') → Cy g h (l ++ m) = Cy g h' m
 | [], m, h, h', e => by
  rw [Cy, Prod.mk.injEq] at e
  rw [List.nil_append, e.2]
 | d :: l, m, h, h', e => by
  rw [Cy] at e
  by_cases h0 : (g h d).1 = 0
  ·rw [Cc h0] at e
   rw [List.cons_append, Cy, Cc h0]
   exact A3j e
  ·rw [Cd h0, Prod.mk.injEq] at e
   exact absurd e.1 h0
theorem O9 {g : List Cl → Cl → EL} {l h h' : List Cl} {i : Nat} (hi : i < l.length) (e : Cy g h (l.take i) = (0, h')) (h0 : (g h' (l.getD i A4)).1 = 0) : Cy g h (l.take (i + 1)) = (0, (g h' (l.getD i A4)).2) := by
 rw [Ad (d := A4) hi, A3j e, Cy, Cc h0, Cy]
theorem Hh {g : List Cl → Cl → EL} {l h h' : List Cl} {i : Nat} (hi : i < l.length) (e : Cy g h (l.take i) = (0, h')) (h0 : (g h' (l.getD i A4)).1 ≠ 0) : Cy g h l = ((g h' (l.getD i A4)).1, []) := by
 have e2 : l = l.take i ++ l.getD i A4 :: l.drop (i + 1) := by rw [Eo (d := A4) hi, List.getElem_cons_drop, List.take_append_drop]
 rw [e2, A3j e, ← e2, Cy, Cd h0]
theorem Yt {g : List Cl → Cl → EL} {l h h' : List Cl} {i : Nat} (hi : i = l.length) (e : Cy g h (l.take i) = (0, h')) : Cy g h l = (0, h') := by
 rw [hi, List.take_length] at e
 exact e
def Ff (f g : List Cl) : EL := Ax (f ++ g)
def I3 (f g : List Cl) : List Cl := f.flatMap fun a => g.map fun b => Db a b
def Hn (f g : List Cl) : EL := Ax (I3 f g)
def A0i (c : Cl) : List Cl := ((A3 c.pos).map fun i => (⟨0, E8 i⟩ : Cl)) ++ ((A3 c.neg).map fun i => (⟨E8 i, 0⟩ : Cl))
def Qk (c : Cl) : EL := Ax (A0i c)
def D5 (h : List Cl) (c : Cl) : EL := J0 (Qk c) fun o => Hn h o
def K3 (f : List Cl) : EL := Cy D5 [A4] f
def D6 (f : List Cl) : EL := if Aa f then K3 f else (2, [])
def A9 (c : Cl) (i : Int) : Cl := ⟨Bd c.pos i, Bd c.neg i⟩
def Dq (i : Int) (r : List Cl) (c : Cl) : EL := if Bu c.pos i then Hn [A9 c i] r else (0, [A9 c i])
def Hc (i : Int) (r : List Cl) (c : Cl) (g : List Cl) : EL := if Bu c.neg i then J0 (K3 r) fun s => Hn g s else (0, g)
def C2 (i : Int) (r h : List Cl) (c : Cl) : EL := J0 (Dq i r c) fun g => J0 (Hc i r c g) fun g => Ff h g
theorem Wp {i : Int} {r h : List Cl} {c : Cl} {P : EL} (hP : Dq i r c = P) (h0 : P.1 ≠ 0) : C2 i r h c = (P.1, []) := by unfold C2; rw [hP]; exact Cd h0
theorem Ja {i : Int} {r h : List Cl} {c : Cl} {P N : EL} (hP : Dq i r c = P) (h0 : P.1 = 0) (hN : Hc i r c P.2 = N) (h1 : N.1 ≠ 0) : C2 i r h c = (N.1, []) := by unfold C2; rw [hP, Cc h0, hN]; exact Cd h1
theorem Kn {i : Int} {r h : List Cl} {c : Cl} {P N : EL} (hP : Dq i r c = P) (h0 : P.1 = 0) (hN : Hc i r c P.2 = N) (h1 : N.1 = 0) : C2 i r h c = Ff h N.2 := by unfold C2; rw [hP, Cc h0, hN]; exact Cc h1
theorem A1w {i : Int} {r : List Cl} {c : Cl} {g : List Cl} {s : EL} (h : Bu c.neg i = true) (hs : s = K3 r) (h0 : s.1 ≠ 0) : Hc i r c g = (s.1, []) := by unfold Hc; rw [if_pos h, ← hs]; exact Cd h0
theorem R3 {i : Int} {r : List Cl} {c : Cl} {g : List Cl} {s m : EL} (h : Bu c.neg i = true) (hs : s = K3 r) (h0 : s.1 = 0) (hm : m = Hn g s.2) : Hc i r c g = m := by unfold Hc; rw [if_pos h, ← hs, hm]; exact Cc h0
theorem A6l {i : Int} {r : List Cl} {c : Cl} {g : List Cl} (h : Bu c.neg i = false) : Hc i r c g = (0, g) := by unfold Hc; rw [if_neg (by simp [h])]
def B5 (f : List Cl) (i : Int) (r : List Cl) : EL := if (Aa f && Aa r) = false then (2, []) else if Gc i = false then (2, []) else Cy (C2 i r) [] f
def Er (l : List Cl) : List Cl := l.filter fun c => !Eg c
def Lp (f : List Cl) : EL := if Aa f then Ax (Er f) else (2, [])
def Bc (r : List Cl) : EL := J0 (D6 r) Lp
def Jk (f g : List Cl) : EL := Ax (f.flatMap fun a => Er (g.map fun b => Db a b))
def Ce (i : Int) (r : List Cl) (c : Cl) : EL := if Bu c.pos i then J0 (Lp r) fun x => Jk [A9 c i] x else if Bu c.neg i then J0 (Bc r) fun x => Jk [A9 c i] x else (0, [A9 c i])
def C6 (i : Int) (r h : List Cl) (c : Cl) : EL := J0 (Ce i r c) fun g => Ff h g
theorem Kx {i : Int} {r h : List Cl} {c : Cl} {P : EL} (hP : Ce i r c = P) (h0 : P.1 = 0) : C6 i r h c = Ff h P.2 := by unfold C6; rw [hP]; exact Cc h0
theorem Fy {i : Int} {r h : List Cl} {c : Cl} {P : EL} (hP : Ce i r c = P) (h0 : P.1 ≠ 0) : C6 i r h c = (P.1, []) := by unfold C6; rw [hP]; exact Cd h0
theorem B0s {i : Int} {r : List Cl} {c : Cl} {q m : EL} (h : Bu c.pos i = true) (hq : q = Lp r) (h0 : q.1 = 0) (hm : m = Jk [A9 c i] q.2) : Ce i r c = m := by unfold Ce; rw [if_pos h, ← hq, hm]; exact Cc h0
theorem A4y {i : Int} {r : List Cl} {c : Cl} {q : EL} (h : Bu c.pos i = true) (hq : q = Lp r) (h0 : q.1 ≠ 0) : Ce i r c = (q.1, []) := by unfold Ce; rw [if_pos h, ← hq]; exact Cd h0
theorem B0t {i : Int} {r : List Cl} {c : Cl} {q m : EL} (h1 : Bu c.pos i = false) (h : Bu c.neg i = true) (hq : q = Bc r) (h0 : q.1 = 0) (hm : m = Jk [A9 c i] q.2) : Ce i r c = m := by unfold Ce; rw [if_neg (by simp [h1]), if_pos h, ← hq, hm]; exact Cc h0
theorem A4z {i : Int} {r : List Cl} {c : Cl} {q : EL} (h1 : Bu c.pos i = false) (h : Bu c.neg i = true) (hq : q = Bc r) (h0 : q.1 ≠ 0) : Ce i r c = (q.1, []) := by unfold Ce; rw [if_neg (by simp [h1]), if_pos h, ← hq]; exact Cd h0
theorem B5m {i : Int} {r : List Cl} {c : Cl} (h1 : Bu c.pos i = false) (h : Bu c.neg i = false) : Ce i r c = (0, [A9 c i]) := by unfold Ce; rw [if_neg (by simp [h1]), if_neg (by simp [h])]
def Aw (f : List Cl) (i : Int) (r : List Cl) : EL := if (A8 f && Gc i && Aa r) = false then (2, []) else Cy (C6 i r) [] f
def single (c : Cl) : Bool := Ao c && !Eg c
def C5 (f g : List Cl) : EL := if (A8 f && A8 g) = false then (2, []) else Ff f g
abbrev Tk (x : EL) : Prop := Ba x.2
theorem C4o {l m : List Cl} (h : Ba l) (hs : ∀ c, c ∈ m → c ∈ l) (hl : m.length ≤ l.length) : Ba m := ⟨fun c hc => h.1 c (hs c hc), by have := h.2; omega⟩
theorem Qm {l : List Cl} (h : ∀ c, c ∈ l → u32 c) : Tk (Ax l) := A7d h
theorem K2 {x : EL} {k : List Cl → EL} (h : x.1 = 0 → Tk (k x.2)) : Tk (J0 x k) := by
 by_cases h0 : x.1 = 0
 ·rw [Cc h0]; exact h h0
 ·rw [Cd h0]; exact Fl
theorem Ww {g : List Cl → Cl → EL} : ∀ {l h : List Cl}, (∀ h c, c ∈ l → Ba h → Tk (g h c)) → Ba h → Tk (Cy g h l)
 | [], h, _, h2 => h2
 | c :: l, h, h1, h2 => by
  rw [Cy]
  exact K2 fun _ => Ww (fun h' d hd => h1 h' d (List.mem_cons_of_mem _ hd)) (h1 h c List.mem_cons_self h2)
theorem Nt {a b : Cl} (h : u32 a) (h2 : u32 b) : u32 (Db a b) := ⟨Nat.or_lt_two_pow (n := 32) h.1 h2.1, Nat.or_lt_two_pow (n := 32) h.2 h2.2⟩
theorem A1f {f g : List Cl} (h : ∀ c, c ∈ f → u32 c) (h2 : ∀ c, c ∈ g → u32 c) : ∀ c, c ∈ f ++ g → u32 c := fun c hc => (List.mem_append.mp hc).elim (h c) (h2 c)
theorem A5o {f g : List Cl} (h : ∀ c, c ∈ f → u32 c) (h2 : ∀ c, c ∈ g → u32 c) : ∀ c, c ∈ I3 f g → u32 c := fun c hc => by
 obtain ⟨a, ha, hc⟩ := List.mem_flatMap.mp hc
 obtain ⟨b, hb, rfl⟩ := List.mem_map.mp hc
 exact Nt (h a ha) (h2 b hb)
theorem C0j (c : Cl) : ∀ d, d ∈ A0i c → u32 d := fun d hd => by
 rcases List.mem_append.mp hd with hd | hd
 ·obtain ⟨i, _, rfl⟩ := List.mem_map.mp hd
  exact ⟨by show (0 : Nat) < _; decide, by have := Ln i; show E8 i < 4294967296; omega⟩
 ·obtain ⟨i, _, rfl⟩ := List.mem_map.mp hd
  exact ⟨by have := Ln i; show E8 i < 4294967296; omega, by show (0 : Nat) < _; decide⟩
theorem Fa (c : Cl) (i : Int) : u32 (A9 c i) := ⟨by have := G1 c.pos i; show Bd c.pos i < _; omega, by have := G1 c.neg i; show Bd c.neg i < _; omega⟩
theorem E0 {c : Cl} (h : u32 c) : Ba [c] := ⟨fun d hd => by rw [List.mem_singleton] at hd; subst hd; exact h, by unfold reach; simp⟩
theorem O0 {f g : List Cl} (h : Ba f) (h2 : Ba g) : Tk (Ff f g) := Qm (A1f h.1 h2.1)
theorem Nz {f g : List Cl} (h : Ba f) (h2 : Ba g) : Tk (Hn f g) := Qm (A5o h.1 h2.1)
theorem C1t (c : Cl) : Tk (Qk c) := Qm (C0j c)
theorem Zl {h : List Cl} {c : Cl} (hh : Ba h) : Tk (D5 h c) := K2 fun _ => Nz hh (C1t c)
theorem V0 : Ba [A4] := E0 ⟨by decide, by decide⟩
theorem Tj (f : List Cl) : Tk (K3 f) := Ww (fun h c _ hh => Zl hh) V0
theorem B3w (f : List Cl) : Tk (D6 f) := by unfold D6; split; exact Tj f; exact Fl
theorem B8b {i : Int} {r : List Cl} {c : Cl} (hr : Ba r) : Tk (Dq i r c) := by
 unfold Dq
 split
 ·exact Nz (E0 (Fa c i)) hr
 ·exact E0 (Fa c i)
theorem B8c {i : Int} {r : List Cl} {c : Cl} {g : List Cl} (hg : Ba g) : Tk (Hc i r c g) := by
 unfold Hc
 split
 ·exact K2 fun _ => Nz hg (Tj r)
 ·exact hg
theorem Zk {i : Int} {r h : List Cl} {c : Cl} (hr : Ba r) (hh : Ba h) : Tk (C2 i r h c) := by
 unfold C2
 refine K2 fun _ => K2 fun _ => O0 hh ?_
 have h1 : Tk (Dq i r c) := B8b hr
 exact B8c h1
theorem B3x {f r : List Cl} {i : Int} (hr : Ba r) : Tk (B5 f i r) := by
 unfold B5
 split
 ·exact Fl
 ·split
  ·exact Fl
  ·exact Ww (fun h c _ hh => Zk hr hh) Fl
theorem V1 {l : List Cl} (h : Ba l) : Ba (Er l) := C4o h (fun c hc => (List.mem_filter.mp hc).1) (List.length_filter_le _ _)
theorem A2j {f : List Cl} (h : Ba f) : Tk (Lp f) := by unfold Lp; split; exact Qm (V1 h).1; exact Fl
theorem R6 (r : List Cl) : Tk (Bc r) := K2 fun _ => A2j (B3w r)
theorem Ng {f g : List Cl} (h : Ba f) (h2 : Ba g) : Tk (Jk f g) := Qm fun c hc => by
 obtain ⟨a, ha, hc⟩ := List.mem_flatMap.mp hc
 obtain ⟨b, hb, rfl⟩ := List.mem_map.mp (List.mem_filter.mp hc).1
 exact Nt (h.1 a ha) (h2.1 b hb)
theorem B0a {i : Int} {r : List Cl} {c : Cl} (hr : Ba r) : Tk (Ce i r c) := by
 unfold Ce
 split
 ·exact K2 fun _ => Ng (E0 (Fa c i)) (A2j hr)
 ·split
  ·exact K2 fun _ => Ng (E0 (Fa c i)) (R6 r)
  ·exact E0 (Fa c i)
theorem A9z {i : Int} {r h : List Cl} {c : Cl} (hr : Ba r) (hh : Ba h) : Tk (C6 i r h c) := K2 fun _ => O0 hh (B0a hr)
theorem B3y {f r : List Cl} {i : Int} (hr : Ba r) : Tk (Aw f i r) := by
 unfold Aw
 split
 ·exact Fl
 ·exact Ww (fun h c _ hh => A9z hr hh) Fl
abbrev A0k (x : EL) : Prop := x.2.length ≤ 64
theorem Fp (l : List Cl) : A0k (Ax l) := by
 rcases Hu l with ⟨_, _, h, h2⟩ | h | h
 ·show (Ax l).2.length ≤ 64; rw [h]; exact h2
 ·show (Ax l).2.length ≤ 64; rw [A2y A2]; decide
 ·show (Ax l).2.length ≤ 64; rw [A2y A2]; decide
theorem Su {x : EL} {k : List Cl → EL} (h : x.1 = 0 → A0k (k x.2)) : A0k (J0 x k) := by
 by_cases h0 : x.1 = 0
 ·rw [Cc h0]; exact h h0
 ·rw [Cd h0]; show ([] : List Cl).length ≤ 64; decide
theorem B4s {g : List Cl → Cl → EL} : ∀ {l h : List Cl}, (∀ h c, c ∈ l → h.length ≤ 64 → A0k (g h c)) → h.length ≤ 64 → A0k (Cy g h l)
 | [], h, _, h2 => h2
 | c :: l, h, h1, h2 => by
  rw [Cy]
  exact Su fun _ => B4s (fun h' d hd => h1 h' d (List.mem_cons_of_mem _ hd)) (h1 h c List.mem_cons_self h2)
theorem Zq (h : List Cl) (c : Cl) : A0k (D5 h c) := Su fun _ => Fp _
theorem C2i (f : List Cl) : A0k (K3 f) := B4s (fun h c _ _ => Zq h c) Jp
theorem B4r (i : Int) (r h : List Cl) (c : Cl) : A0k (C2 i r h c) := Su fun _ => Su fun _ => Fp _
theorem D1u (f : List Cl) : A0k (Lp f) := by unfold Lp; split; exact Fp _; (show ([] : List Cl).length ≤ 64; decide)
theorem B8k (r : List Cl) : A0k (Bc r) := Su fun _ => D1u _
theorem I6 {f : List Cl} (h : Aa f = true) : f.length ≤ 64 := by
 unfold Aa at h
 simp only [Bool.and_eq_true, decide_eq_true_eq] at h
 exact h.2
theorem D0q (c : Cl) : (A0i c).length ≤ 48 := by
 unfold A0i
 rw [List.length_append, List.length_map, List.length_map]
 have h1 : (A3 c.pos).length ≤ 24 := H0 _ _
 have h2 : (A3 c.neg).length ≤ 24 := H0 _ _
 omega
theorem X3 {s i : Nat} (h : i < (A3 s).length) : 0 ≤ (A3 s).getD i 0 ∧ (A3 s).getD i 0 < 24 := by
 have h1 := Mb (Ac (d := (0 : Int)) h)
 exact ⟨h1.1, by have := h1.2; exact_mod_cast this⟩
theorem B4n {s i : Nat} (h : i < (A3 s).length) : Ak ((A3 s).getD i 0) := by have := X3 h; unfold Ak; omega
theorem A6w (f g : List Cl) : (I3 f g).length = f.length * g.length := by
 unfold I3
 induction f with
 | nil => simp
 | cons a f ih => rw [List.flatMap_cons, List.length_append, ih, List.length_map, List.length_cons, Nat.succ_mul]; omega
theorem B8g (f g : List Cl) (a : Cl) : I3 (f ++ [a]) g = I3 f g ++ g.map fun b => Db a b := by unfold I3; rw [List.flatMap_append]; simp
theorem C1 {ok : Nat → Prop} {l : List Cl} {a : SH} {w : World} (h : Mv ok l a w) : Ba l := ⟨h.2, h.1.2.1⟩
def A0m (i : Int) : EL := if Gc i then (0, [⟨E8 i, 0⟩]) else (2, [])
theorem St.E0w {B : Cu} {Γ : List Fact} {Ms : List Bj} {w : World} {e : TypeId} {b : Nat} {l m : List Cl} {a a' : SH} (hs : St B Γ (Ae b [sl a l.length, sl a' m.length] e :: Ms) w) {hBp : Prop} (hB : hBp) (hF : CL l a ∈ Γ) (hG : CL m a' ∈ Γ) : St B (CCF [(l, a), (m, a')] (some ⟨b, 0, Option.none⟩, 2) :: Γ) Ms w := by
 have h1 := ((hs.Hw (sz := 1) (m := 2) rfl Jp).B9v cpE).A4e (x := (l, a)) List.mem_cons_self (List.mem_cons_of_mem _ hF)
 have h2 := h1.A4e (x := (m, a')) List.mem_cons_self (List.mem_cons_of_mem _ (List.mem_cons_of_mem _ hG))
 exact (h2.Y8 (F := Tq) (E := cpE) (d := cp0) (bt := 24) (l := [(l, a), (m, a')]) (fun _ => rfl) hB List.mem_cons_self rfl rfl Jp).less sx_
theorem St.D1r {B : Cu} {Γ : List Fact} {Ms : List Bj} {w : World} {b : Nat} {e : TypeId} {cs : List Value} {c : Cl} (hs : St B Γ (Ae b cs e :: Ms) w) {hBp : Prop} (hB : hBp) (hc : cs = Aq c) (hu : u32 c) : St B (CL [c] (some ⟨b, 0, Option.none⟩, 1) :: Γ) Ms w :=
 (hs.Hw (sz := 2) (m := 1) (by rw [hc]; rfl) Jp).Bx (l := [c]) hB (by rw [hc]; simp [Ab]) rfl (E0 hu).2 (E0 hu).1
theorem Spec.Ya {P : Program} {k : FuncId} {args : Array Value} {pre : List Fact} {e : TypeId} {r r' : EL} (he : r' = r) (h : Spec P k args pre [] (fun x : SH => .tuple #[sl x r.2.length, .int .i64 r.1]) (fun _ => []) (fun x => [Av 2 e x r.2.length (Ab r.2)])) (hr : Tk r) :
  Spec P k args pre [] (fun x : SH => .tuple #[sl x r'.2.length, .int .i64 r'.1]) (fun x => [CL r'.2 x]) (fun _ => []) := by
 subst he
 exact fun ok w hok hst => (h ok w hok hst).mono fun e w' hh => by
  obtain ⟨x, he, hs⟩ := hh
  exact ⟨x, he, hs.Bx trivial rfl rfl hr.2 hr.1⟩
theorem Spec.R2 {P : Program} {k : FuncId} {args : Array Value} {pre : List Fact} {e : TypeId} {r r' : EL} (he : r' = r) (h : Spec P k args pre [] (fun x : SH => .tuple #[sl x r.2.length, .int .i64 r.1]) (fun _ => []) (fun x => [Av 2 e x r.2.length (Ab r.2)])) :
  Spec P k args pre [] (fun x : SH => .tuple #[sl x r'.2.length, .int .i64 r'.1]) (fun _ => []) (fun x => [Av 2 e x r'.2.length (Ab r'.2)]) := by
 subst he
 exact h
structure E3 where
 form : Int → List Cl → EL
 B1 : Int → List Cl → EL
def elR (x : EL) : B9 (List Cl) := if x.1 = 0 then .ok x.2 else .bad x.1
theorem B9a {x : EL} (h : x.1 = 0) : elR x = .ok x.2 := if_pos h
theorem C2u {x : EL} (h : x.1 ≠ 0) : elR x = .bad x.1 := if_neg h
theorem Vh {x : EL} {g : List Cl} : elR x = .ok g ↔ x = (0, g) := by
 unfold elR
 split
 ·rename_i h
  constructor
  ·intro h2; injection h2 with h2; exact Prod.ext h h2
  ·rintro rfl; rfl
 ·rename_i h
  constructor
  ·intro h2; cases h2
  ·rintro rfl; exact absurd rfl h
theorem Zy {x : EL} {e : Int} : elR x = .bad e ↔ x.1 = e ∧ e ≠ 0 := by
 unfold elR
 split
 ·rename_i h
  constructor
  ·intro h2; cases h2
  ·rintro ⟨h2, h3⟩; exact absurd (h2.symm.trans h) h3
 ·rename_i h
  constructor
  ·intro h2; injection h2 with h2; exact ⟨h2, h2 ▸ h⟩
  ·rintro ⟨h2, h3⟩; rw [h2]
def E3.row (W : E3) (k d : Int) (r : List Cl) : EL := if k = 14 then W.B1 d r else W.form d r
def Bg (W : E3) : Tr Int where
 own d k n _ r := (elR (W.row k d r)).bind fun g => .ok (.inr (n, g))
 B1 d f := (elR (W.B1 d f)).bind fun g => .ok (if g.length = 0 then none else some g)
 S2 d b := .ok (d + b.2)
theorem Qf {W : E3} {d : Int} {b : Int × Int} : (Bg W).S2 d b = .ok (d + b.2) := rfl
theorem Sb {W : E3} {d k n : Int} {nm : ByteArray} {r : List Cl} (h : (W.row k d r).1 = 0) : (Bg W).own d k n nm r = .ok (.inr (n, (W.row k d r).2)) := by
 show (elR _).bind _ = _; rw [B9a h]; rfl
theorem R1 {W : E3} {d k n : Int} {nm : ByteArray} {r : List Cl} (h : (W.row k d r).1 ≠ 0) : (Bg W).own d k n nm r = .bad (W.row k d r).1 := by
 show (elR _).bind _ = _; rw [C2u h]; rfl
theorem Wo {W : E3} {d k n : Int} {nm : ByteArray} {r : List Cl} {p : Int × List Cl} : (Bg W).own d k n nm r = .ok (.inr p) ↔ W.row k d r = (0, p.2) ∧ p.1 = n := by
 constructor
 ·intro h
  obtain ⟨g, hg, h2⟩ := B9.Ai (x := elR (W.row k d r)) h
  injection h2 with h2; injection h2 with h2; subst h2
  exact ⟨Vh.mp hg, rfl⟩
 ·rintro ⟨h1, h2⟩
  rw [Sb (by rw [h1]), h1, ← h2]
theorem N4 {W : E3} {d k n : Int} {nm : ByteArray} {r : List Cl} {u : T} : (Bg W).own d k n nm r ≠ .ok (.inl u) := by
 intro h
 obtain ⟨g, hg, h2⟩ := B9.Ai (x := elR (W.row k d r)) h
 injection h2 with h2; cases h2
theorem Qe {W : E3} {d k n e : Int} {nm : ByteArray} {r : List Cl} : (Bg W).own d k n nm r = .bad e ↔ (W.row k d r).1 = e ∧ e ≠ 0 := by
 rw [← Zy]
 show (elR _).bind _ = _ ↔ _
 cases elR (W.row k d r) with
 | ok g => constructor <;> (intro h; cases h)
 | bad e' => exact Iff.intro (fun h => by injection h with h; rw [h]) (fun h => by injection h with h; rw [h]; rfl)
theorem Sd {W : E3} {d : Int} {f : List Cl} (h : (W.B1 d f).1 = 0) (h2 : (W.B1 d f).2.length = 0) : (Bg W).B1 d f = .ok none := by
 show (elR _).bind _ = _; rw [B9a h]; show B9.ok (if _ then _ else _) = _; rw [if_pos h2]
theorem Sc {W : E3} {d : Int} {f : List Cl} (h : (W.B1 d f).1 = 0) (h2 : (W.B1 d f).2.length ≠ 0) : (Bg W).B1 d f = .ok (some (W.B1 d f).2) := by
 show (elR _).bind _ = _; rw [B9a h]; show B9.ok (if _ then _ else _) = _; rw [if_neg h2]
theorem Pm {W : E3} {d : Int} {f : List Cl} (h : (W.B1 d f).1 ≠ 0) : (Bg W).B1 d f = .bad (W.B1 d f).1 := by
 show (elR _).bind _ = _; rw [C2u h]; rfl
theorem Nw {W : E3} {d : Int} {f : List Cl} : (Bg W).B1 d f = .ok none ↔ W.B1 d f = (0, []) := by
 constructor
 ·intro h
  obtain ⟨g, hg, h2⟩ := B9.Ai (x := elR (W.B1 d f)) h
  injection h2 with h2
  rw [Vh.mp hg]
  split at h2
  ·rename_i h3; rw [List.eq_nil_of_length_eq_zero h3]
  ·cases h2
 ·intro h; exact Sd (by rw [h]) (by rw [h]; rfl)
theorem Kd {W : E3} {d : Int} {f g : List Cl} : (Bg W).B1 d f = .ok (some g) ↔ W.B1 d f = (0, g) ∧ g ≠ [] := by
 constructor
 ·intro h
  obtain ⟨g', hg, h2⟩ := B9.Ai (x := elR (W.B1 d f)) h
  injection h2 with h2
  split at h2
  ·cases h2
  ·rename_i h3
   injection h2 with h2; subst h2
   exact ⟨Vh.mp hg, fun h => h3 (by rw [h]; rfl)⟩
 ·rintro ⟨h, h2⟩
  have h3 := Sc (W := W) (d := d) (f := f) (by rw [h]) (by rw [h]; intro h4; exact h2 (List.eq_nil_of_length_eq_zero h4))
  rw [h3, h]
theorem P2 {W : E3} {d e : Int} {f : List Cl} : (Bg W).B1 d f = .bad e ↔ (W.B1 d f).1 = e ∧ e ≠ 0 := by
 rw [← Zy]
 show (elR _).bind _ = _ ↔ _
 cases elR (W.B1 d f) with
 | ok g => constructor <;> (intro h; cases h)
 | bad e' => exact Iff.intro (fun h => by injection h with h; rw [h]) (fun h => by injection h with h; rw [h]; rfl)
def Fh (g : Nat → T → B9 T) : Nat → List T → B9 (List T)
 | _, [] => .ok []
 | i, t :: ts => (g i t).bind fun t' => (Fh g (i + 1) ts).bind fun ts' => .ok (t' :: ts')
section
variable {g : Nat → T → B9 T}
theorem Vi : ∀ (i : Nat) (l : List T) (t : T), Fh g i (l ++ [t]) = (Fh g i l).bind fun l' => (g (i + l.length) t).bind fun t' => .ok (l' ++ [t'])
 | i, [], t => by
  simp only [List.nil_append, Fh, B9.bind, List.length_nil, Nat.add_zero]
 | i, a :: l, t => by
  simp only [List.cons_append, Fh, Vi (i + 1) l t, List.length_cons]
  rw [show i + 1 + l.length = i + (l.length + 1) by omega]
  cases g i a with
  | bad e => rfl
  | ok a' =>
   simp only [B9.bind]
   cases Fh g (i + 1) l with
   | bad e => rfl
   | ok l' =>
    simp only
    cases g (i + (l.length + 1)) t with
    | bad e => rfl
    | ok c2 => rfl
theorem A7t {e : Int} : ∀ {l m : List T} {i : Nat}, Fh g i l = .bad e → Fh g i (l ++ m) = .bad e
 | [], m, i, h => by rw [Fh] at h; cases h
 | a :: l, m, i, h => by
  rw [List.cons_append, Fh]
  rw [Fh] at h
  cases h1 : g i a with
  | bad e' => rw [h1] at h; exact h
  | ok a' =>
   rw [h1] at h
   simp only [B9.bind] at h ⊢
   cases h3 : Fh g (i + 1) l with
   | bad e' => rw [h3] at h; rw [A7t h3]; exact h
   | ok l' => rw [h3] at h; cases h
theorem B5n {l us : List T} {i : Nat} {u : T} (hi : i < l.length) (h : Fh g 0 (l.take i) = .ok us) (hu : g i (l.getD i t0) = .ok u) : Fh g 0 (l.take (i + 1)) = .ok (us ++ [u]) := by
 rw [Ad (d := t0) hi, Vi, h]
 simp only [B9.bind, List.length_take, Nat.zero_add, Nat.min_eq_left (Nat.le_of_lt hi)]
 rw [hu]
theorem B0y {l us : List T} {i : Nat} {e : Int} (hi : i < l.length) (h : Fh g 0 (l.take i) = .ok us) (hu : g i (l.getD i t0) = .bad e) : Fh g 0 l = .bad e := by
 have h1 : Fh g 0 (l.take (i + 1)) = .bad e := by
  rw [Ad (d := t0) hi, Vi, h]
  simp only [B9.bind, List.length_take, Nat.zero_add, Nat.min_eq_left (Nat.le_of_lt hi)]
  rw [hu]
 have h2 := A7t (m := l.drop (i + 1)) h1
 rwa [List.take_append_drop] at h2
theorem A7s : ∀ {l us : List T} {i : Nat}, Fh g i l = .ok us → us.length = l.length
 | [], us, i, h => by rw [Fh] at h; injection h with h; subst h; rfl
 | a :: l, us, i, h => by
  rw [Fh] at h
  obtain ⟨a', _, h⟩ := B9.Ai h
  obtain ⟨l', h2, h⟩ := B9.Ai h
  injection h with h; subst h
  simp [A7s h2]
theorem A7r {e : Int} : ∀ {l : List T} {i : Nat}, Fh g i l = .bad e → ∃ j t, t ∈ l ∧ g j t = .bad e
 | [], i, h => by rw [Fh] at h; cases h
 | a :: l, i, h => by
  rw [Fh] at h
  cases h1 : g i a with
  | bad e' => rw [h1] at h; injection h with h; subst h; exact ⟨i, a, List.mem_cons_self, h1⟩
  | ok a' =>
   rw [h1] at h
   simp only [B9.bind] at h
   cases h3 : Fh g (i + 1) l with
   | bad e' => rw [h3] at h; injection h with h; subst h; obtain ⟨j, t, ht, hj⟩ := A7r h3; exact ⟨j, t, List.mem_cons_of_mem _ ht, hj⟩
   | ok l' => rw [h3] at h; cases h
end
theorem Y0 {W : E3} {k d : Int} : ∀ {i : Nat} {ts : List T}, Fb (Bg W) k i ts d = Fh (fun j t => Cq (Bg W) t (d + (binds k j).2)) i ts
 | i, [] => by rw [Gh, Fh]
 | i, t :: ts => by rw [G6, Fh, Qf, Y0 (i := i + 1) (ts := ts)]; rfl
theorem Xz {W : E3} {k d : Int} : ∀ {i : Nat} {ts : List T}, Ee (Bg W) k ts d = Fh (fun _ t => Cq (Bg W) t (d + more k)) i ts
 | i, [] => by rw [Gg, Fh]
 | i, t :: ts => by rw [G5, Fh, Qf, Xz (i := i + 1) (ts := ts)]; rfl
theorem Uc {C : Type} {A : Tr C} {k : Int} {c : C} {ss : List Br} {s : Nat} {bs : List Br} (hs : s < ss.length) (hb : F6 A k (ss.take s) c = .ok bs) (hf : A.B1 c (ss.getD s Bq).B1 = .ok none) : F6 A k (ss.take (s + 1)) c = .ok bs := by
 rw [Ad (d := Bq) hs, Qy, hb]
 simp only [B9.bind]
 rw [hf]
theorem A4n {C : Type} {A : Tr C} {t : T} {c : C} {e : Int} {p : Int × List Cl} (h : A.own c t.kind t.n t.name t.r = .ok (.inr p)) (hl : Fb A t.kind 0 t.kids c = .bad e) : Cq A t c = .bad e := by
 rw [Mg, h]; simp only [B9.bind]; rw [hl]
def Ri (r : B9 (List T)) : Int × List T := match r with
 | .ok u => (0, u)
 | .bad e => (e, [])
theorem C7k {r : B9 T} (h : (Lw r).1 ≠ 0) : r = .bad (Lw r).1 := by
 cases r with
 | ok u => exact absurd rfl h
 | bad e => rfl
theorem D3n {r : B9 T} (hb : ∀ e, r = .bad e → e ≠ 0) (h : (Lw r).1 = 0) : r = .ok (Lw r).2 := by
 cases r with
 | ok u => rfl
 | bad e => exact absurd h (hb e rfl)
theorem A4c {r : B9 (List T)} (h : (Ri r).1 ≠ 0) : r = .bad (Ri r).1 := by
 cases r with
 | ok u => exact absurd rfl h
 | bad e => rfl
theorem A8c {r : B9 (List T)} (hb : ∀ e, r = .bad e → e ≠ 0) (h : (Ri r).1 = 0) : r = .ok (Ri r).2 := by
 cases r with
 | ok u => rfl
 | bad e => exact absurd h (hb e rfl)
theorem Se {W : E3} : ∀ (t : T) {d e : Int}, Cq (Bg W) t d = .bad e → e ≠ 0 := T.ind fun t ih d e h => by
 rcases Wb h with h1 | ⟨b, _, h1⟩ | ⟨p, hp, h1 | ⟨c', _, h2⟩⟩
 ·exact (Qe.mp h1).2
 ·exact (P2.mp h1).2
 ·cases h1
 ·exact ih p hp h2
theorem Xi {W : E3} {b : Nat → Int} {l : List T} {i : Nat} {e d : Int} (h : Fh (fun j t => Cq (Bg W) t (d + b j)) i l = .bad e) : e ≠ 0 := by
 obtain ⟨j, t, _, h1⟩ := A7r h
 exact Se t h1
abbrev E1 (W : E3) (t : T) (d : Int) : Int × T := Lw (Cq (Bg W) t d)
abbrev Z9 (W : E3) (b : Nat → Int) (l : List T) (d : Int) : Int × List T := Ri (Fh (fun j t => Cq (Bg W) t (d + b j)) 0 l)
def Cn (P : List Cl → Int → List Cl → EL) (i : Int) (r : List Cl) (d : Int) (f : List Cl) : EL := if Bu (Dl f) (i + d) = false then (0, f) else J0 (An r 0 d) fun s => P f (i + d) s
def Mq (i : Int) (r : List Cl) : E3 := ⟨Cn B5 i r, Cn Aw i r⟩
theorem A9c {t k : T} (h : k ∈ t.kids) : size k < size t := by obtain ⟨p, hp, e⟩ := H2 h; exact e ▸ Lc hp
theorem A9a {t k : T} {b : Br} (h : b ∈ t.sys) (h2 : k ∈ b.kids) : size k < size t := by obtain ⟨p, hp, e⟩ := Gy h h2; exact e ▸ Lc hp
theorem Spec.D7g {P : Program} {k : FuncId} {args : Array Value} {pre : List Fact} {Ms0 : List Bj} {y : Tys} {r r' : Int × T} (he : r' = r) (h : Spec P k args pre Ms0 (fun x : {h : HT // h.er = r.2} => .tuple #[.agg (tc r.2 x.1.vr x.1.vk x.1.vs).toArray, .int .i64 r.1]) (fun _ => []) (fun x => [Dc (Gb y x.1)])) :
  Spec P k args pre Ms0 (fun x : {h : HT // h.er = r'.2} => .tuple #[.agg (tc r'.2 x.1.vr x.1.vk x.1.vs).toArray, .int .i64 r'.1]) (fun _ => []) (fun x => [Dc (Gb y x.1)]) := by
 subst he
 exact h
theorem Spec.D7w {P : Program} {k : FuncId} {args : Array Value} {pre : List Fact} {Ms0 : List Bj} {y : Tys} {e : TypeId} {r r' : Int × List T} (he : r' = r) (h : Spec P k args pre Ms0 (fun x : {p : List HT × SH // p.1.map HT.er = r.2} => .tuple #[sl x.1.2 r.2.length, .int .i64 r.1]) (fun _ => []) (fun x => [Av 6 e x.1.2 r.2.length (C8 (x.1.1.map HT.tp)), Dc (F1 y x.1.1)])) :
  Spec P k args pre Ms0 (fun x : {p : List HT × SH // p.1.map HT.er = r'.2} => .tuple #[sl x.1.2 r'.2.length, .int .i64 r'.1]) (fun _ => []) (fun x => [Av 6 e x.1.2 r'.2.length (C8 (x.1.1.map HT.tp)), Dc (F1 y x.1.1)]) := by
 subst he
 exact h
section
variable {W : E3}
mutual
theorem Qa : ∀ {t u : T} {d : Int}, Cq (Bg W) t d = .ok u → size u ≤ size t
 | .mk k n nm r ks ss, u, d, hu => by
  rw [Mg] at hu
  simp only [T.kind, T.n, T.name, T.r, T.kids, T.sys] at hu
  obtain ⟨o, h9, hu⟩ := B9.Ai hu
  cases o with
  | inl v => exact absurd h9 N4
  | inr p =>
   obtain ⟨ks', h10, hu⟩ := B9.Ai hu
   obtain ⟨ss', h11, hu⟩ := B9.Ai hu
   injection hu with hu
   subst hu
   rw [R0, R0]
   simp only [T.kids, T.sys]
   have h1 := A1a h10
   have h2 := Us h11
   omega
theorem A1a {k : Int} : ∀ {ts us : List T} {i : Nat} {d : Int}, Fb (Bg W) k i ts d = .ok us → Km us ≤ Km ts
 | [], us, i, d, hu => by rw [Gh] at hu; injection hu with hu; subst hu; exact Nat.le_refl _
 | t :: ts, us, i, d, hu => by
  rw [G6] at hu
  obtain ⟨c', _, hu⟩ := B9.Ai hu
  obtain ⟨t', h2, hu⟩ := B9.Ai hu
  obtain ⟨ts', h3, hu⟩ := B9.Ai hu
  injection hu with hu
  subst hu
  have h4 := Qa h2
  have h5 := A1a h3
  simp only [Km]
  omega
theorem A0z {k : Int} : ∀ {ts us : List T} {d : Int}, Ee (Bg W) k ts d = .ok us → Km us ≤ Km ts
 | [], us, d, hu => by rw [Gg] at hu; injection hu with hu; subst hu; exact Nat.le_refl _
 | t :: ts, us, d, hu => by
  rw [G5] at hu
  obtain ⟨c', _, hu⟩ := B9.Ai hu
  obtain ⟨t', h2, hu⟩ := B9.Ai hu
  obtain ⟨ts', h3, hu⟩ := B9.Ai hu
  injection hu with hu
  subst hu
  have h4 := Qa h2
  have h5 := A0z h3
  simp only [Km]
  omega
theorem Us {k : Int} : ∀ {bs us : List Br} {d : Int}, F6 (Bg W) k bs d = .ok us → Ue us ≤ Ue bs
 | [], us, d, hu => by rw [G2] at hu; injection hu with hu; subst hu; exact Nat.le_refl _
 | .mk f ks :: bs, us, d, hu => by
  rw [G7] at hu
  simp only [Br.B1, Br.kids] at hu
  obtain ⟨o, h5, hu⟩ := B9.Ai hu
  cases o with
  | none => have h6 := Us hu; simp only [Ue]; omega
  | some g =>
   obtain ⟨ks', h7, hu⟩ := B9.Ai hu
   obtain ⟨bs', h8, hu⟩ := B9.Ai hu
   injection hu with hu
   subst hu
   have h1 := A0z h7
   have h2 := Us h8
   simp only [Ue, Br.kids]
   omega
end
theorem C7x (hW : ∀ d f, Ba f → Tk (W.form d f) ∧ Tk (W.B1 d f)) {t u : T} {d : Int} (h : Rw t) (hu : Cq (Bg W) t d = .ok u) : Rw u := by
 refine Wc (A := Bg W) ?_ ?_ ?_ t d u h hu
 ·intro c k n nm r p _ hn hr ho
  obtain ⟨h1, h2⟩ := Wo.mp ho
  have h3 := hW c r hr
  have h4 : Tk (W.row k c r) := by unfold E3.row; split; exact h3.2; exact h3.1
  unfold Tk at h4
  rw [h1] at h4
  exact ⟨by rw [h2]; exact hn, h4⟩
 ·intro c k n nm r u ho
  exact absurd ho N4
 ·intro c f f' hr ho
  obtain ⟨h1, _⟩ := Kd.mp ho
  have h3 := (hW c f hr).2
  unfold Tk at h3
  rw [h1] at h3
  exact h3
theorem Wi : size t0 = 1 := by decide
theorem A4b {t : T} {d : Int} : size (E1 W t d).2 ≤ size t := by
 unfold E1
 cases h : Cq (Bg W) t d with
 | ok u => exact Qa h
 | bad e => show size t0 ≤ size t; rw [Wi]; exact size_pos' t
theorem A8b (hW : ∀ d f, Ba f → Tk (W.form d f) ∧ Tk (W.B1 d f)) {t : T} {d : Int} (h : Rw t) : Rw (E1 W t d).2 := by
 unfold E1
 cases hu : Cq (Bg W) t d with
 | ok u => exact C7x hW h hu
 | bad e => exact Sn
end
theorem A2i {P : List Cl → Int → List Cl → EL} (hP : ∀ f i r, Ba f → Ba r → Tk (P f i r)) {i d : Int} {r f : List Cl} (hf : Ba f) : Tk (Cn P i r d f) := by
 unfold Cn
 split
 ·exact hf
 ·exact K2 fun _ => hP _ _ _ hf (P8 r 0 d)
theorem C1r (i : Int) (r : List Cl) : ∀ d f, Ba f → Tk ((Mq i r).form d f) ∧ Tk ((Mq i r).B1 d f) := fun d f hf =>
 ⟨A2i (fun f i r _ hr => B3x hr) hf, A2i (fun f i r _ hr => B3y hr) hf⟩
def We (x : Int × T) (k : T → Int × T) : Int × T := if x.1 ≠ 0 then (x.1, t0) else k x.2
theorem J5 {x : Int × T} {k : T → Int × T} (h : x.1 ≠ 0) : We x k = (x.1, t0) := if_pos h
theorem Jz {x : Int × T} {k : T → Int × T} (h : x.1 = 0) : We x k = k x.2 := if_neg (by simp [h])
def Ic {α : Type} (g : α → T → Int × T) : List α → T → Int × T
 | [], t => (0, t)
 | a :: l, t => We (g a t) fun u => Ic g l u
section
variable {α : Type} {g : α → T → Int × T}
theorem A3i : ∀ {l m : List α} {t u : T}, Ic g l t = (0, u) → Ic g (l ++ m) t = Ic g m u
 | [], m, t, u, e => by
  rw [Ic, Prod.mk.injEq] at e
  rw [List.nil_append, e.2]
 | a :: l, m, t, u, e => by
  rw [Ic] at e
  by_cases h0 : (g a t).1 = 0
  ·rw [Jz h0] at e
   rw [List.cons_append, Ic, Jz h0]
   exact A3i e
  ·rw [J5 h0, Prod.mk.injEq] at e
   exact absurd e.1 h0
theorem B5f {l : List α} {d : α} {t u : T} {i : Nat} (hi : i < l.length) (e : Ic g (l.take i) t = (0, u)) (h0 : (g (l.getD i d) u).1 = 0) : Ic g (l.take (i + 1)) t = (0, (g (l.getD i d) u).2) := by
 rw [Ad (d := d) hi, A3i e, Ic, Jz h0, Ic]
theorem A7f {l : List α} {d : α} {t u : T} {i : Nat} (hi : i < l.length) (e : Ic g (l.take i) t = (0, u)) (h0 : (g (l.getD i d) u).1 ≠ 0) : Ic g l t = ((g (l.getD i d) u).1, t0) := by
 have e2 : l = l.take i ++ l.getD i d :: l.drop (i + 1) := by rw [Eo (d := d) hi, List.getElem_cons_drop, List.take_append_drop]
 rw [e2, A3i e, ← e2, Ic, J5 h0]
theorem A7g {l : List α} {t u : T} {i : Nat} (hi : i = l.length) (e : Ic g (l.take i) t = (0, u)) : Ic g l t = (0, u) := by
 rw [hi, List.take_length] at e
 exact e
theorem Xe : ∀ {l : List α} {t : T}, (Ic g l t).1 ≠ 0 → (Ic g l t).2 = t0
 | [], t, h => absurd rfl h
 | a :: l, t, h => by
  rw [Ic] at h ⊢
  by_cases h1 : (g a t).1 = 0
  ·rw [Jz h1] at h ⊢; exact Xe h
  ·rw [J5 h1]
theorem Vb {p : T → Prop} (h0 : p t0) (hg : ∀ a u, p u → p (g a u).2) : ∀ {l : List α} {t : T}, p t → p (Ic g l t).2
 | [], t, h => h
 | a :: l, t, h => by
  rw [Ic]
  by_cases h1 : (g a t).1 = 0
  ·rw [Jz h1]; exact Vb h0 hg (hg a t h)
  ·rw [J5 h1]; exact h0
end
def F0 (r : List Cl) (l : List Int) (t : T) : Int × T := Ic (fun i u => E1 (Mq i r) u 0) l t
abbrev EP : Type := Nat × List Cl × SH
def P9 (p : EP) : List Value := [.int .u32 (p.1 : Int), sl p.2.2 p.2.1.length]
abbrev epE (p : EP) : Fact := CL p.2.1 p.2.2
def Lq : EP := (0, [], none, 0)
abbrev ENF (l : List EP) (a : SH) : Fact := A5f 2 32 P9 epE Lq l a
def D3b (l : List EP) (t : T) : Int × T := Ic (fun (p : EP) u => F0 p.2.1 (A3 p.1) u) l t
def Bh (t : T) (c : Cl) : Int × T := if C0 t ≠ 0 then (C0 t, t0) else if single c = false then (2, t0) else We (F0 [A4] (A3 c.pos) t) fun u => F0 [] (A3 c.neg) u
theorem A7n {c : Cl} {a : SH} {t : T} : D3b [(c.pos, [A4], a), (c.neg, [], none, 0)] t = We (F0 [A4] (A3 c.pos) t) fun u => F0 [] (A3 c.neg) u := by
 unfold D3b
 simp only [Ic]
 congr 1
 funext u
 by_cases h : (F0 [] (A3 c.neg) u).1 = 0
 ·rw [Jz h]; exact Prod.ext h.symm rfl
 ·rw [J5 h]
  unfold F0 at h ⊢
  refine Prod.ext rfl ?_
  show t0 = _
  exact (Xe h).symm
theorem A6k {r : List Cl} {l : List Int} {t : T} (h : Rw t) : Rw (F0 r l t).2 := Vb Sn (fun i u hu => A8b (C1r i r) hu) h
theorem A1v {r : List Cl} {l : List Int} {t : T} {n : Nat} (hn : 1 ≤ n) (h : size t ≤ n) : size (F0 r l t).2 ≤ n := Vb (p := fun u => size u ≤ n) (by rw [Wi]; exact hn) (fun i u hu => Nat.le_trans A4b hu) h
section
variable {P : Program} [Tab P] {f : FuncId} {R : Ending → World → Prop} {B : Cu} {n : Fz} {K : List Item} {ops : Array Oper} {l : List Nat} {σ : Nat → Value} {Γ : List Fact} {Ms : List Bj} {dst : Option Tmp} {ty : TypeId} {x : Operand}
theorem E0k {t : TypeId} {l' : List (Nat × Nat)} {bt bk o i' : Nat} {a : SH} {zv : Value} {ls : List EP} (k_ : Ec P f R B n K ops l (Au σ dst (.agg (P9 (ls.getD i' Lq)).toArray)) Γ Ms) (hF : ENF ls a ∈ Γ := by repeat (first | exact List.mem_cons_self | apply List.mem_cons_of_mem))
  (hx : ev σ x = .pointer (some ⟨bk, o + i' * 2, none⟩) := by exact A5) (ha : a.1 = some ⟨bk, o, none⟩ := by assumption) (hu : Tab.lay P t = some l' := by rfl) (hi : Tab.inf P t = some (2, bt, zv) := by rfl) (hlt : i' < ls.length := by first | omega | (simp; omega)) (hd : Af n dst = true := by rfl) : Ew P f R B n K ops l (Ch dst (.load t x) ty) σ Γ Ms :=
 Hr (D6b (F := P9) (fun _ => rfl) hx hF ha hu hi hlt) hd k_
end
theorem Spec.D3g {P : Program} {k : FuncId} {args : Array Value} {pre L : List Fact} {G : Fact} {Ms0 : List Bj} {X : Type} {val : X → Value} {N : X → List Fact} {Ms1 : X → List Bj} (hp : ∀ F, F ∈ pre → F ∈ G :: L) (h : Spec P k args pre Ms0 val N Ms1) : Spec P k args [Lo L, G] Ms0 val N Ms1 := fun ok w hok hs =>
 h ok w hok ⟨hs.chg, fun F hF => by
  rcases List.mem_cons.mp (hp F hF) with e | e
  ·subst e; exact hs.facts _ (List.mem_cons_of_mem _ List.mem_cons_self)
  ·exact hs.facts (Lo L) List.mem_cons_self F e, hs.res, hs.lt, hs.disj⟩
theorem Spec.D4g {P : Program} {k : FuncId} {args : Array Value} {pre L : List Fact} {G : Fact} {Ms0 : List Bj} {X : Type} {val : X → Value} {N : X → List Fact} {Ms1 : X → List Bj} (hL : ∀ F, F ∈ L → F ∈ pre) (hG : G ∈ pre) (h : Spec P k args [Lo L, G] Ms0 val N Ms1) : Spec P k args pre Ms0 val N Ms1 := fun ok w hok hs =>
 h ok w hok ⟨hs.chg, fun F hF => by
  rcases List.mem_cons.mp hF with e | e
  ·subst e; exact fun F' hF' => hs.facts F' (hL F' hF')
  ·rw [List.mem_singleton] at e; subst e; exact hs.facts _ hG, hs.res, hs.lt, hs.disj⟩
theorem St.E5f {B : Cu} {Γ : List Fact} {Ms : List Bj} {w : World} {e : TypeId} {b : Nat} {p q : EP} (hs : St B Γ (Ae b (P9 p ++ P9 q) e :: Ms) w) {hBp : Prop} (hB : hBp) (hF : epE p ∈ Γ) (hG : epE q ∈ Γ) : St B (ENF [p, q] (some ⟨b, 0, Option.none⟩, 2) :: Γ) Ms w := by
 have h1 := ((hs.Hw (sz := 2) (m := 2) rfl Jp).B9v epE).A4e (x := p) List.mem_cons_self (List.mem_cons_of_mem _ hF)
 have h2 := h1.A4e (x := q) List.mem_cons_self (List.mem_cons_of_mem _ (List.mem_cons_of_mem _ hG))
 exact (h2.Y8 (F := P9) (E := epE) (d := Lq) (bt := 32) (l := [p, q]) (fun _ => rfl) hB List.mem_cons_self E5 rfl Jp).less sx_
end Go.Hy
namespace Go.Hy
open Go Go.ChangeShapes Go.WideShapes Go.RowKit Go.Shelf Go.Proofs
theorem A0l {C : Checked} {os : Os} {f : FuncId} {fn : Func} {s : ChangeSpec} {conds : List PathCond} {ts : List TypeId} {tb : TypeId} {H : Type} {enc : TypeId × Value → H} {L : List (String × DataW Unit)}
  (own : ownKnob C.prog.godebug = none) (started : os.Started) (noInit : C.prog.inits.idxOf? f = none) (hfn : C.prog.funcs[f]? = some fn)
  (witness : ∃ (w : World) (tape : Tape) (i : Input), w.os = os ∧ (w.forCall tape i).Shaped C.prog ∧ i.vars = [] ∧ Input.okWide C.prog (w.forCall tape i) .any w.heap.size f i ∧
   ((s.pre enc C.prog fn conds false (w.forCall tape i).memory i.args ∧ laidMetH C.prog L (w.forCall tape i).memory) ∧ sizedMet enc C.prog fn (OpenSpec.ofChange s) false (w.forCall tape i).memory i.args) ∧ Assume.holds {} C.prog (lone (Frame.enter C.prog f i.args .normal) [] (w.forCall tape i)))
  (laid : laidOutB C.prog = true) (hps : fn.params.toList = ts) (hread : ts.all (fun t => C.prog.readableRec t && decide (t < C.prog.types.size)) = true) (hres : fn.resultTypes = #[tb]) (hbool : C.prog.underlying tb = some .bool) (hvars : s.vars = [])
  (hsays : ∀ ds : List (DataW H), ds.length = ts.length → s.fn H ds = { results := [.lit (.bool true)], args := ds })
  (hcall : ∀ (W : World) (base : Nat) (args : Array Value) (ds : List (DataW H)) (p : List MemPlace), (∀ (j : Nat) t v, ts[j]? = some t → args[j]? = some v → Value.okWide C.prog W .any base t v) →
   DataW.TrodAll enc C.prog W 0 (fun _ => true) true ts args.toList ds p → (∀ x, x ∈ DataW.weightsEach C.prog ts ds → x ≤ reach) → laidMetH C.prog L W →
   Calls C.prog f args W fun e W' => e = .returned (.bool true) ∧ Below W.heap.size W W') :
  ReturnsInHanded {} C os f .any (fun w args => (s.pre enc C.prog fn conds false w args ∧ laidMetH C.prog L w) ∧ sizedMet enc C.prog fn (OpenSpec.ofChange s) false w args) (s.post enc C.prog fn false true false false) := by
 refine returnsInHanded_of_change_and (X := fun w _ => laidMetH C.prog L w) (fun _ _ _ hh h => h.of_heap hh) own started noInit hfn witness ?_
 intro W base args ds gs before hval hW hcnd hwt hL _
 have hW' := hW
 obtain ⟨p, q, hA, hV, rfl, hfz, hnd⟩ := hW
 rw [hvars] at hV
 obtain ⟨rfl, rfl⟩ := trodVars_none hV
 rw [hps] at hA hwt
 have hlen : ∀ {ts : List TypeId} {vs : List Value} {ds : List (DataW H)} {ps : List MemPlace}, DataW.TrodAll enc C.prog W 0 (fun _ => true) true ts vs ds ps → ds.length = ts.length := by
  intro ts
  induction ts with
  | nil => intro vs ds ps h; obtain ⟨_, rfl, _⟩ := trodAll_nil h; rfl
  | cons t ts ih =>
   intro vs ds ps h
   obtain ⟨v, vs1, d, ds1, a, b, rfl, rfl, rfl, _, h2⟩ := trodAll_cons h
   simp [ih h2]
 have hvt : s.plain.varTypes C.prog = [] := by
  have : s.plain.vars = [] := hvars
  unfold DataSpec.varTypes; rw [this]; rfl
 have hw2 : ∀ x, x ∈ DataW.weightsEach C.prog ts ds → x ≤ reach := by
  intro x hx
  rw [List.append_nil, hvt, List.append_nil] at hwt
  have := List.all_eq_true.mp hwt x hx
  exact of_decide_eq_true this
 refine (hcall W base args ds p (fun j t v ht hv => hval j t v (by rw [← Array.getElem?_toList, hps]; exact ht) hv) hA hw2 hL).mono ?_
 intro e W' ⟨he, hb⟩
 have hlt : ∀ x ∈ p, x.block < W.heap.size := fun x hx => hW'.lt x (by simpa using hx)
 refine ⟨.bool true, he, ds, [], p ++ [], [], p, [], hW', ?_, ?_, ?_, hb.frame _, fun h => by cases h⟩
 ·rw [List.append_nil, hsays ds (hlen hA), hres]
  exact ⟨[], [], ⟨1, by simp [DataW.trod, Value.cells, hbool]⟩, rfl, rfl⟩
 ·rw [List.append_nil, hsays ds (hlen hA), hps]
  refine Ub laid hb (fun t ht => ?_) hA hlt
  have := List.all_eq_true.mp hread t ht
  simpa using this
 ·rw [List.append_nil, hsays ds (hlen hA), hvars]
  rfl
theorem C8f {P : Program} {W : World} {nm : String} {t e : TypeId} {tab : List Nat} (hg : P.globalNamed nm = some 0) (ht : (P.globals[0]?).map (·.type) = some t) (hu : P.underlying t = some (.array tab.length e)) (he : P.underlying e = some (.int .u8)) (hc : P.cellsOf e = 1) (hc2 : P.cellsOf t = tab.length) (hpos : 0 < tab.length)
  (hp : ([(nm, (DataW.agg (tab.map fun (v : Nat) => .lit (.int .u8 (v : Int))) : DataW Unit))].all fun x => x.2.handleName?.isNone) = true) (h : laidMetH P [(nm, .agg (tab.map fun (v : Nat) => .lit (.int .u8 (v : Int))))] W) : TabAt 0 tab W ∧ 0 < W.heap.size := by
 rw [MakeChecks.laidMetH_plain _ _ _ hp] at h
 obtain ⟨ps, ⟨g0, t0, cs0, f0, p0, q0, hg0, ht0, hv0, hd0, _⟩, _⟩ := h
 obtain rfl := u_ hg hg0
 obtain rfl := u_ ht ht0
 obtain ⟨xs, m1, rfl, hx1, hlen, hn3, hel⟩ := DataW.trod_array hu hd0
 simp only [Prod.mk.injEq, DataW.agg.injEq] at hx1
 have hcell : ∀ j, j < tab.length → W.cell? ⟨0, j, none⟩ = some (.int .u8 (tab.getD j 0)) := by
  intro j hj
  have h1 := hel j hj
  rw [hc, Nat.mul_one, List.getElem?_eq_getElem A2] at h1
  obtain ⟨n, e1, e2, _⟩ := DataW.trod_int he h1
  have h2 := World.var?_cell hg0 hv0 j
  have h3 : cs0[j]? = some (.int .u8 n) := by
   have h4 := congrArg (fun l => l[0]?) e1
   simp only [List.getElem?_take, List.getElem?_drop, List.getElem?_cons_zero] at h4
   simpa using h4
  rw [h2, h3]
  have h5 : (tab.map fun (v : Nat) => (DataW.lit (.int .u8 (v : Int)) : DataW Unit))[j]? = (xs.map (·.1))[j]? := by rw [hx1.1]
  rw [List.getElem?_map, List.getElem?_map, List.getElem?_eq_getElem hj, List.getElem?_eq_getElem (show j < xs.length by omega)] at h5
  simp only [Option.map_some, Option.some.injEq] at h5
  rw [e2] at h5
  simp only [DataW.lit.injEq, Lit.int.injEq, true_and] at h5
  rw [List.getD_eq_getElem?_getD, List.getElem?_eq_getElem hj]
  simp [← h5]
 refine ⟨hcell, ?_⟩
 have h6 := hcell 0 hpos
 refine Nat.lt_of_not_le fun hz => ?_
 unfold World.cell? at h6
 rw [Array.getElem?_eq_none (show W.heap.size ≤ 0 from hz)] at h6
 simp at h6
theorem C8g {W : World} {tab : List Nat} (h : TabAt 0 tab W ∧ 0 < W.heap.size) : (At 0 0 (tab.map fun (v : Nat) => Value.int .u8 (v : Int))).f (okw W) W := by
 refine ⟨h.2, fun j v hj => ?_⟩
 rw [List.getElem?_map] at hj
 cases hq : tab[j]? with
 | none => rw [hq] at hj; cases hj
 | some k =>
  rw [hq] at hj
  injection hj with hj
  subst hj
  have hlt : j < tab.length := by
   refine Nat.lt_of_not_le fun hn => ?_
   rw [List.getElem?_eq_none hn] at hq
   cases hq
  have h1 := h.1 j hlt
  rw [List.getD_eq_getElem?_getD, hq] at h1
  rw [Nat.zero_add]
  exact h1
end Go.Hy
namespace Go.Hy
abbrev Wd : Type := Nat → Prop
def J6 (c : Cl) (P N : Wd) : Prop := (∀ i, c.pos.testBit i = true → P i) ∧ ∀ i, c.neg.testBit i = true → N i
def sat (l : List Cl) (P N : Wd) : Prop := ∃ c, c ∈ l ∧ J6 c P N
def K7 (s : Nat) : Wd := fun i => s.testBit i = true
def Xn (P N : Wd) : Prop := ∀ i, ¬ (P i ∧ N i)
theorem D0p {a b : Nat} : a ||| b = a ↔ ∀ i, b.testBit i = true → a.testBit i = true := by
 constructor
 ·intro h i hi
  rw [← h, Nat.testBit_or, hi, Bool.or_true]
 ·intro h
  refine Nat.eq_of_testBit_eq fun i => ?_
  rw [Nat.testBit_or]
  cases hb : b.testBit i with
  | false => simp
  | true => rw [h i hb]; rfl
theorem Ky {a b : Cl} : below a b = true ↔ J6 b (K7 a.pos) (K7 a.neg) := by
 unfold below J6 K7
 rw [Bool.and_eq_true, decide_eq_true_eq, decide_eq_true_eq, D0p, D0p]
theorem Y9 (c : Cl) : J6 c (K7 c.pos) (K7 c.neg) := ⟨fun i h => h, fun i h => h⟩
theorem Wk {a b : Cl} {P N : Wd} (h : below a b = true) (hs : J6 a P N) : J6 b P N := by
 have h1 := Ky.mp h
 exact ⟨fun i hi => hs.1 i (h1.1 i hi), fun i hi => hs.2 i (h1.2 i hi)⟩
theorem B9s (c : Cl) : below c c = true := Ky.mpr (Y9 c)
theorem A0d {a b c : Cl} (h : below a b = true) (h2 : below b c = true) : below a c = true := Ky.mpr (Wk h2 (Ky.mp h))
theorem B9u {a b : Cl} (h : below a b = true) (h2 : below b a = true) : a = b := by
 have h1 := Ky.mp h
 have h3 := Ky.mp h2
 unfold J6 K7 at h1 h3
 have e1 : a.pos = b.pos := Nat.eq_of_testBit_eq fun i => by
  cases ha : a.pos.testBit i with
  | true => exact (h3.1 i ha).symm
  | false => cases hb : b.pos.testBit i with
   | false => rfl
   | true => rw [h1.1 i hb] at ha; cases ha
 have e2 : a.neg = b.neg := Nat.eq_of_testBit_eq fun i => by
  cases ha : a.neg.testBit i with
  | true => exact (h3.2 i ha).symm
  | false => cases hb : b.neg.testBit i with
   | false => rfl
   | true => rw [h1.2 i hb] at ha; cases ha
 cases a; cases b; simp_all
theorem A4t {l : List Cl} {c : Cl} (h : C4 l c = true) : ∃ d, d ∈ l ∧ c ≠ d ∧ below c d = true := by
 unfold C4 at h
 obtain ⟨d, hd, h2⟩ := List.any_eq_true.mp h
 rw [Bool.and_eq_true] at h2
 exact ⟨d, hd, by simpa using h2.1, h2.2⟩
theorem Zr {l : List Cl} : ∀ (n : Nat) (c : Cl), c.pos + c.neg ≤ n → c ∈ l → ∃ d, d ∈ E2 l ∧ below c d = true
 | n, c, hn, hc => by
  cases h : C4 l c with
  | false => exact ⟨c, F8.mpr ⟨hc, h⟩, B9s c⟩
  | true =>
   obtain ⟨d, hd, hne, hb⟩ := A4t h
   have h1 : c.pos ||| d.pos = c.pos ∧ c.neg ||| d.neg = c.neg := by
    unfold below at hb
    rw [Bool.and_eq_true, decide_eq_true_eq, decide_eq_true_eq] at hb
    exact hb
   have h2 : d.pos ≤ c.pos := by have := Nat.right_le_or (n := c.pos) (m := d.pos); omega
   have h3 : d.neg ≤ c.neg := by have := Nat.right_le_or (n := c.neg) (m := d.neg); omega
   have h4 : d.pos + d.neg < c.pos + c.neg := by
    refine Nat.lt_of_le_of_ne A2 fun he => hne ?_
    have e1 : c.pos = d.pos := by omega
    have e2 : c.neg = d.neg := by omega
    cases c; cases d; simp_all
   obtain ⟨e, he, h5⟩ := Zr (d.pos + d.neg) d (Nat.le_refl _) hd
   exact ⟨e, he, A0d hb h5⟩
termination_by n c => c.pos + c.neg
theorem A9h {l : List Cl} {P N : Wd} : sat (E2 l) P N ↔ sat l P N := by
 constructor
 ·rintro ⟨c, hc, h⟩; exact ⟨c, (F8.mp hc).1, h⟩
 ·rintro ⟨c, hc, h⟩
  obtain ⟨d, hd, hb⟩ := Zr _ c (Nat.le_refl _) hc
  exact ⟨d, hd, Wk hb h⟩
theorem I5 {l : List Cl} {P N : Wd} (h : (Ax l).1 = 0) : sat (Ax l).2 P N ↔ sat l P N := by
 rcases Hu l with ⟨_, _, h2, _⟩ | h2 | h2
 ·rw [h2]; exact A9h
 ·rw [h2] at h; cases h
 ·rw [h2] at h; cases h
theorem A9q {l m : List Cl} (Q : Wd → Wd → Prop) (hl : ∀ c, c ∈ l → Q (K7 c.pos) (K7 c.neg)) (hm : ∀ c, c ∈ m → Q (K7 c.pos) (K7 c.neg)) (h : ∀ P N, Q P N → (sat l P N ↔ sat m P N)) : E2 l = E2 m := by
 have half : ∀ {l m : List Cl}, (∀ c, c ∈ l → Q (K7 c.pos) (K7 c.neg)) → (∀ c, c ∈ m → Q (K7 c.pos) (K7 c.neg)) → (∀ P N, Q P N → (sat l P N ↔ sat m P N)) → ∀ x, x ∈ E2 l → x ∈ E2 m := by
  intro l m hl hm h x hx
  obtain ⟨h1, h2⟩ := F8.mp hx
  have key : ∀ d, d ∈ m → below x d = true → x = d := by
   intro d hd hb
   obtain ⟨e, he, hse⟩ := (h _ _ (hm d hd)).mpr ⟨d, hd, Y9 d⟩
   have hb2 : below d e = true := Ky.mpr hse
   rcases Li.mp h2 e he with h3 | h3
   ·subst h3; exact B9u hb hb2
   ·rw [A0d hb hb2] at h3; cases h3
  obtain ⟨d, hd, hsd⟩ := (h _ _ (hl x h1)).mp ⟨x, h1, Y9 x⟩
  have hxd := key d hd (Ky.mpr hsd)
  refine F8.mpr ⟨hxd ▸ hd, Li.mpr fun e he => ?_⟩
  cases hb : below x e with
  | false => exact .inr rfl
  | true => exact .inl (key e he hb)
 exact Ux (K8 l) (K8 m) fun x => ⟨half hl hm h x, half hm hl (fun P N hq => (h P N hq).symm) x⟩
theorem B8m {l m : List Cl} (Q : Wd → Wd → Prop) (r1 : l.all Ao = true) (r2 : m.all Ao = true) (hl : ∀ c, c ∈ l → Q (K7 c.pos) (K7 c.neg)) (hm : ∀ c, c ∈ m → Q (K7 c.pos) (K7 c.neg)) (h : ∀ P N, Q P N → (sat l P N ↔ sat m P N)) : Ax l = Ax m := by
 unfold Ax
 rw [r1, r2, A9q Q hl hm h]
theorem Hv {l : List Cl} (h : Aa l = true) : l.all Ao = true := by
 unfold Aa at h
 simp only [Bool.and_eq_true] at h
 exact h.1.1.1
theorem Z1 {c : Cl} : Eg c = false ↔ Xn (K7 c.pos) (K7 c.neg) := by
 unfold Eg Xn K7
 rw [decide_eq_false_iff_not, Decidable.not_not]
 constructor
 ·rintro h i ⟨h1, h2⟩
  have h3 : (c.pos &&& c.neg).testBit i = true := by rw [Nat.testBit_and, h1, h2]; rfl
  rw [h, Nat.zero_testBit] at h3
  cases h3
 ·intro h
  refine Nat.eq_of_testBit_eq fun i => ?_
  rw [Nat.testBit_and, Nat.zero_testBit]
  cases h1 : c.pos.testBit i with
  | false => rfl
  | true => cases h2 : c.neg.testBit i with
   | false => rfl
   | true => exact absurd ⟨h1, h2⟩ (h i)
theorem Dg {l : List Cl} (h : A8 l = true) : Aa l = true ∧ ∀ c, c ∈ l → Eg c = false := by
 unfold A8 at h
 rw [Bool.and_eq_true, Bool.not_eq_true'] at h
 refine ⟨h.1, fun c hc => ?_⟩
 cases hq : Eg c with
 | false => rfl
 | true => rw [List.any_eq_true.mpr ⟨c, hc, hq⟩] at h; cases h.2
theorem Qt {l : List Cl} (h : Aa l = true) (h2 : ∀ c, c ∈ l → Eg c = false) : A8 l = true := by
 unfold A8
 rw [Bool.and_eq_true, Bool.not_eq_true', h]
 refine ⟨rfl, ?_⟩
 cases hq : l.any Eg with
 | false => rfl
 | true => obtain ⟨c, hc, h3⟩ := List.any_eq_true.mp hq; rw [h2 c hc] at h3; cases h3
section
variable {f g l : List Cl} {P N : Wd} {a b c : Cl}
theorem C0r : ¬ sat [] P N := by rintro ⟨c, hc, _⟩; cases hc
theorem Uz : sat (f ++ g) P N ↔ sat f P N ∨ sat g P N := by
 unfold sat
 simp only [List.mem_append]
 constructor
 ·rintro ⟨c, h | h, h2⟩
  ·exact .inl ⟨c, h, h2⟩
  ·exact .inr ⟨c, h, h2⟩
 ·rintro (⟨c, h, h2⟩ | ⟨c, h, h2⟩)
  ·exact ⟨c, .inl h, h2⟩
  ·exact ⟨c, .inr h, h2⟩
theorem Nv : sat [c] P N ↔ J6 c P N := by
 unfold sat
 constructor
 ·rintro ⟨d, hd, h⟩; rw [List.mem_singleton] at hd; subst hd; exact h
 ·intro h; exact ⟨c, List.mem_singleton.mpr rfl, h⟩
theorem C8u : J6 A4 P N := ⟨fun i hi => by simp [A4] at hi, fun i hi => by simp [A4] at hi⟩
theorem D4q : sat [A4] P N := Nv.mpr C8u
theorem A6e : J6 (Db a b) P N ↔ J6 a P N ∧ J6 b P N := by
 unfold J6 Db
 simp only [Nat.testBit_or, Bool.or_eq_true]
 constructor
 ·rintro ⟨h1, h2⟩; exact ⟨⟨fun i hi => h1 i (.inl hi), fun i hi => h2 i (.inl hi)⟩, fun i hi => h1 i (.inr hi), fun i hi => h2 i (.inr hi)⟩
 ·rintro ⟨h1, h2⟩; exact ⟨fun i hi => hi.elim (h1.1 i) (h2.1 i), fun i hi => hi.elim (h1.2 i) (h2.2 i)⟩
theorem Tf : sat (I3 f g) P N ↔ sat f P N ∧ sat g P N := by
 unfold sat I3
 simp only [List.mem_flatMap, List.mem_map]
 constructor
 ·rintro ⟨c, ⟨a, ha, b, hb, rfl⟩, h⟩
  have h2 := A6e.mp h
  exact ⟨⟨a, ha, h2.1⟩, b, hb, h2.2⟩
 ·rintro ⟨⟨a, ha, h1⟩, b, hb, h2⟩
  exact ⟨_, ⟨a, ha, b, hb, rfl⟩, A6e.mpr ⟨h1, h2⟩⟩
theorem A1q (hw : Xn P N) : sat (Er l) P N ↔ sat l P N := by
 unfold sat Er
 constructor
 ·rintro ⟨c, hc, h⟩; exact ⟨c, (List.mem_filter.mp hc).1, h⟩
 ·rintro ⟨c, hc, h⟩
  refine ⟨c, List.mem_filter.mpr ⟨hc, ?_⟩, h⟩
  rw [Bool.not_eq_true', Z1]
  rintro i ⟨h1, h2⟩
  exact hw i ⟨h.1 i h1, h.2 i h2⟩
end
theorem B5v {i : Int} {j : Nat} : (E8 i).testBit j = true ↔ (0 ≤ i ∧ i < 24) ∧ (j : Int) = i := by
 unfold E8
 split
 ·rename_i h
  rw [Nat.testBit_two_pow, decide_eq_true_eq]
  omega
 ·rename_i h
  rw [Nat.zero_testBit]
  constructor
  ·intro h2; cases h2
  ·rintro ⟨h2, _⟩; exact absurd h2 h
theorem J2 {s : Nat} {i : Int} {j : Nat} : (Bd s i).testBit j = true ↔ j < 24 ∧ s.testBit j = true ∧ (j : Int) ≠ i := by
 unfold Bd
 split
 ·rename_i h
  rw [G0, Fq, Nat.testBit_two_pow]
  simp only [Bool.and_eq_true, decide_eq_true_eq, Bool.not_eq_true', decide_eq_false_iff_not]
  constructor
  ·rintro ⟨⟨_, h2, h3⟩, h4⟩; exact ⟨h2, h3, by omega⟩
  ·rintro ⟨h1, h2, h3⟩; exact ⟨⟨by omega, h1, h2⟩, by omega⟩
 ·rename_i h
  rw [Fq]
  simp only [Bool.and_eq_true, decide_eq_true_eq]
  constructor
  ·rintro ⟨h1, h2⟩; exact ⟨h1, h2, by omega⟩
  ·rintro ⟨h1, h2, _⟩; exact ⟨h1, h2⟩
theorem Lf {c : Cl} (h : Ao c = true) : (∀ i, c.pos.testBit i = true → i < 24) ∧ ∀ i, c.neg.testBit i = true → i < 24 := by
 obtain ⟨h1, h2⟩ := Cw.mp h
 have key : ∀ s i : Nat, s < 16777216 → s.testBit i = true → i < 24 := fun s i hs hi => by
  refine Decidable.byContradiction fun hn => ?_
  have h3 : s < 2 ^ i := Nat.lt_of_lt_of_le (show s < 2 ^ 24 by omega) (Nat.pow_le_pow_right A2 A2)
  rw [Nat.testBit_lt_two_pow h3] at hi
  cases hi
 exact ⟨fun i hi => key _ i h1 hi, fun i hi => key _ i h2 hi⟩
theorem C4l {c : Cl} {i : Int} {P N : Wd} (hc : Ao c = true) : J6 (A9 c i) P N ↔ (∀ j : Nat, c.pos.testBit j = true → (j : Int) ≠ i → P j) ∧ ∀ j : Nat, c.neg.testBit j = true → (j : Int) ≠ i → N j := by
 obtain ⟨h1, h2⟩ := Lf hc
 unfold J6 A9
 simp only [J2]
 exact ⟨fun h => ⟨fun j hj hn => h.1 j ⟨h1 j hj, hj, hn⟩, fun j hj hn => h.2 j ⟨h2 j hj, hj, hn⟩⟩, fun h => ⟨fun j hj => h.1 j hj.2.1 hj.2.2, fun j hj => h.2 j hj.2.1 hj.2.2⟩⟩
theorem He {s : Nat} {x : Int} : x ∈ A3 s ↔ 0 ≤ x ∧ x < 24 ∧ s.testBit x.toNat = true := El
theorem D4p {c : Cl} {P N : Wd} (hc : Ao c = true) : sat (A0i c) P N ↔ (∃ i, c.pos.testBit i = true ∧ N i) ∨ ∃ i, c.neg.testBit i = true ∧ P i := by
 obtain ⟨b1, b2⟩ := Lf hc
 unfold A0i
 rw [Uz]
 have one : ∀ (s : Nat) (hs : ∀ i, s.testBit i = true → i < 24) (mk : Nat → Cl) (Q : Wd) (hq : ∀ x : Int, 0 ≤ x → x < 24 → (J6 (mk (E8 x)) P N ↔ Q x.toNat)), sat ((A3 s).map fun i => mk (E8 i)) P N ↔ ∃ i, s.testBit i = true ∧ Q i := by
  intro s hs mk Q hq
  unfold sat
  simp only [List.mem_map]
  constructor
  ·rintro ⟨_, ⟨x, hx, rfl⟩, h⟩
   obtain ⟨x0, x1, x2⟩ := He.mp hx
   exact ⟨x.toNat, x2, (hq x x0 x1).mp h⟩
  ·rintro ⟨i, hi, h⟩
   have h3 := hs i hi
   exact ⟨_, ⟨(i : Int), He.mpr ⟨by omega, by omega, by simpa using hi⟩, rfl⟩, (hq (i : Int) A2 A2).mpr (by simpa using h)⟩
 have e1 := one c.pos b1 (fun s => ⟨0, s⟩) N (fun x x0 x1 => by
  unfold J6
  simp only [Nat.zero_testBit, B5v]
  constructor
  ·intro h; exact h.2 x.toNat ⟨⟨x0, x1⟩, by omega⟩
  ·intro h; exact ⟨fun i hi => (by cases hi), fun i hi => (show i = x.toNat by omega) ▸ h⟩)
 have e2 := one c.neg b2 (fun s => ⟨s, 0⟩) P (fun x x0 x1 => by
  unfold J6
  simp only [Nat.zero_testBit, B5v]
  constructor
  ·intro h; exact h.1 x.toNat ⟨⟨x0, x1⟩, by omega⟩
  ·intro h; exact ⟨fun i hi => (show i = x.toNat by omega) ▸ h, fun i hi => (by cases hi)⟩)
 exact or_congr e1 e2
theorem Nh {g : List Cl → Cl → EL} {L : List Cl} {I : List Cl → List Cl → Prop} (hs : ∀ pre c h, c ∈ L → I pre h → (g h c).1 = 0 → I (pre ++ [c]) (g h c).2) : ∀ (m pre h : List Cl), I pre h → (∀ c, c ∈ m → c ∈ L) → (Cy g h m).1 = 0 → I (pre ++ m) (Cy g h m).2
 | [], pre, h, hi, _, _ => by rw [List.append_nil]; exact hi
 | c :: m, pre, h, hi, hm, h0 => by
  rw [Cy] at h0 ⊢
  by_cases h1 : (g h c).1 = 0
  ·rw [Cc h1] at h0 ⊢
   have h2 := Nh hs m (pre ++ [c]) _ (hs pre c h (hm c List.mem_cons_self) hi h1) (fun d hd => hm d (List.mem_cons_of_mem _ hd)) h0
   rwa [List.append_assoc] at h2
  ·rw [Cd h1] at h0
   exact absurd h0 h1
theorem Dy {x : EL} {k : List Cl → EL} (h : (J0 x k).1 = 0) : x.1 = 0 ∧ (k x.2).1 = 0 ∧ J0 x k = k x.2 := by
 by_cases h1 : x.1 = 0
 ·rw [Cc h1] at h ⊢; exact ⟨h1, h, rfl⟩
 ·rw [Cd h1] at h; exact absurd h h1
def coW (P : Wd) : Wd := fun i => ¬ P i
theorem C0q {f : List Cl} {P N : Wd} (hf : ∀ c, c ∈ f → Ao c = true) (h : (K3 f).1 = 0) : sat (K3 f).2 P N ↔ ¬ sat f (coW N) (coW P) := by
 have h2 := Nh (g := D5) (L := f) (I := fun pre h => ∀ P N, sat h P N ↔ ∀ c, c ∈ pre → ¬ J6 c (coW N) (coW P)) (fun pre c h hc hi h0 P N => by
  unfold D5 at h0 ⊢
  obtain ⟨a1, a2, a3⟩ := Dy h0
  rw [a3]
  unfold Hn at a2 ⊢
  rw [I5 a2, Tf, hi]
  unfold Qk at a1 ⊢
  rw [I5 a1, D4p (hf c hc)]
  simp only [List.mem_append, List.mem_singleton, or_imp, forall_and, forall_eq]
  refine and_congr Iff.rfl ?_
  unfold J6 coW
  constructor
  ·rintro (⟨i, hi, hn⟩ | ⟨i, hi, hn⟩) ⟨h1, h2⟩
   ·exact h1 i hi hn
   ·exact h2 i hi hn
  ·intro h1
   refine Classical.byContradiction fun h2 => h1 ⟨fun i hi hn => h2 (.inl ⟨i, hi, hn⟩), fun i hi hn => h2 (.inr ⟨i, hi, hn⟩)⟩) f [] [A4] (fun P N => ⟨fun _ c hc => (by cases hc), fun _ => D4q⟩) (fun c hc => hc) h P N
 rw [List.nil_append] at h2
 unfold K3
 rw [h2]
 unfold sat
 constructor
 ·rintro h3 ⟨c, hc, h4⟩; exact h3 c hc h4
 ·intro h3 c hc h4; exact h3 ⟨c, hc, h4⟩
def ovr (P : Wd) (i : Int) (A : Prop) : Wd := fun j => if (j : Int) = i then A else P j
theorem Wm {c : Cl} {i : Int} {P N : Wd} {A A' : Prop} (hc : Ao c = true) : J6 c (ovr P i A) (ovr N i A') ↔ J6 (A9 c i) P N ∧ (Bu c.pos i = true → A) ∧ (Bu c.neg i = true → A') := by
 obtain ⟨b1, b2⟩ := Lf hc
 rw [C4l hc]
 unfold J6 ovr Bu
 simp only [Bool.and_eq_true, decide_eq_true_eq]
 constructor
 ·rintro ⟨h1, h2⟩
  refine ⟨⟨fun j hj hn => ?_, fun j hj hn => ?_⟩, ?_, ?_⟩
  ·have := h1 j hj; rwa [if_neg hn] at this
  ·have := h2 j hj; rwa [if_neg hn] at this
  ·rintro ⟨⟨h3, h4⟩, h5⟩; have := h1 _ h5; rwa [if_pos A2] at this
  ·rintro ⟨⟨h3, h4⟩, h5⟩; have := h2 _ h5; rwa [if_pos A2] at this
 ·rintro ⟨⟨h1, h2⟩, h3, h4⟩
  refine ⟨fun j hj => ?_, fun j hj => ?_⟩
  ·split
   ·rename_i h; have := b1 j hj; exact h3 ⟨⟨by omega, by omega⟩, by rw [← h]; simpa using hj⟩
   ·rename_i h; exact h1 j hj h
  ·split
   ·rename_i h; have := b2 j hj; exact h4 ⟨⟨by omega, by omega⟩, by rw [← h]; simpa using hj⟩
   ·rename_i h; exact h2 j hj h
theorem A9n (c : Cl) (i : Int) : Ao (A9 c i) = true := Cw.mpr ⟨G1 _ _, G1 _ _⟩
theorem B2t {f r : List Cl} {i : Int} {P N : Wd} (h : (B5 f i r).1 = 0) : Aa f = true ∧ Aa r = true ∧ (0 ≤ i ∧ i < 24) ∧ (sat (B5 f i r).2 P N ↔ sat f (ovr P i (sat r P N)) (ovr N i (¬ sat r (coW N) (coW P)))) := by
 unfold B5 at h ⊢
 split at h
 ·cases h
 ·rename_i h1
  split at h
  ·cases h
  ·rename_i h2
   rw [if_neg h1, if_neg h2]
   simp only [Bool.not_eq_false, Bool.and_eq_true] at h1
   have h3 : 0 ≤ i ∧ i < 24 := by unfold Gc at h2; simpa using h2
   refine ⟨h1.1, h1.2, h3, ?_⟩
   have hr := Hv h1.2
   have hf := Hv h1.1
   have h4 := Nh (g := C2 i r) (L := f) (I := fun pre h => ∀ P N, sat h P N ↔ ∃ c, c ∈ pre ∧ J6 c (ovr P i (sat r P N)) (ovr N i (¬ sat r (coW N) (coW P)))) (fun pre c h hc hi h0 P N => by
    unfold C2 at h0 ⊢
    obtain ⟨a1, a2, a3⟩ := Dy h0
    rw [a3]
    obtain ⟨b1, b2, b3⟩ := Dy a2
    rw [b3]
    unfold Ff at b2 ⊢
    rw [I5 b2, Uz, hi]
    have hc24 := List.all_eq_true.mp hf c hc
    have e1 : ∀ P N, sat (Dq i r c).2 P N ↔ J6 (A9 c i) P N ∧ (Bu c.pos i = true → sat r P N) := by
     intro P N
     unfold Dq at a1 ⊢
     split
     ·rename_i h5
      rw [if_pos h5] at a1
      unfold Hn at a1 ⊢
      rw [I5 a1, Tf, Nv]
      exact ⟨fun h => ⟨h.1, fun _ => h.2⟩, fun h => ⟨h.1, h.2 h5⟩⟩
     ·rename_i h5
      rw [Nv]
      exact ⟨fun h => ⟨h, fun h6 => absurd h6 h5⟩, fun h => h.1⟩
    have e2 : sat (Hc i r c (Dq i r c).2).2 P N ↔ sat (Dq i r c).2 P N ∧ (Bu c.neg i = true → ¬ sat r (coW N) (coW P)) := by
     unfold Hc at b1 ⊢
     split
     ·rename_i h5
      rw [if_pos h5] at b1
      obtain ⟨d1, d2, d3⟩ := Dy b1
      rw [d3]
      unfold Hn at d2 ⊢
      rw [I5 d2, Tf, C0q (fun c hc => List.all_eq_true.mp hr c hc) d1]
      exact ⟨fun h => ⟨h.1, fun _ => h.2⟩, fun h => ⟨h.1, h.2 h5⟩⟩
     ·rename_i h5
      exact ⟨fun h => ⟨h, fun h6 => absurd h6 h5⟩, fun h => h.1⟩
    rw [e2, e1]
    simp only [List.mem_append, List.mem_singleton]
    constructor
    ·rintro (⟨d, hd, hs⟩ | hs)
     ·exact ⟨d, .inl hd, hs⟩
     ·exact ⟨c, .inr rfl, (Wm hc24).mpr ⟨hs.1.1, hs.1.2, hs.2⟩⟩
    ·rintro ⟨d, hd | hd, hs⟩
     ·exact .inl ⟨d, hd, hs⟩
     ·subst hd
      obtain ⟨q1, q2, q3⟩ := (Wm hc24).mp hs
      exact .inr ⟨⟨q1, q2⟩, q3⟩) f [] [] (fun P N => ⟨fun h => absurd h C0r, fun ⟨c, hc, _⟩ => (by cases hc)⟩) (fun c hc => hc) h P N
   rw [List.nil_append] at h4
   exact h4
theorem C8t {r : List Cl} {P N : Wd} (hw : Xn P N) (h : (Lp r).1 = 0) : sat (Lp r).2 P N ↔ sat r P N := by
 unfold Lp at h ⊢
 split at h
 ·rename_i h1
  rw [if_pos h1, I5 h, A1q hw]
 ·cases h
theorem B6y {r : List Cl} {P N : Wd} (hw : Xn P N) (h : (Bc r).1 = 0) : sat (Bc r).2 P N ↔ ¬ sat r (coW N) (coW P) := by
 unfold Bc at h ⊢
 obtain ⟨a1, a2, a3⟩ := Dy h
 rw [a3, C8t hw a2]
 unfold D6 at a1 ⊢
 split at a1
 ·rename_i h1
  rw [if_pos h1, C0q (fun c hc => List.all_eq_true.mp (Hv h1) c hc) a1]
 ·cases a1
theorem Tn {c : Cl} {x : List Cl} : Jk [c] x = Ax (Er (x.map fun b => Db c b)) := by
 unfold Jk
 simp
theorem Wl {c : Cl} {x : List Cl} {P N : Wd} : sat (x.map fun b => Db c b) P N ↔ J6 c P N ∧ sat x P N := by
 have h := Tf (f := [c]) (g := x) (P := P) (N := N)
 rw [Nv] at h
 rw [← h]
 unfold I3
 simp
theorem A3v {c : Cl} {i : Int} (h : Eg c = false) : Eg (A9 c i) = false := by
 rw [Z1] at h ⊢
 rintro j ⟨h1, h2⟩
 exact h j ⟨(J2.mp h1).2.1, (J2.mp h2).2.1⟩
theorem has_both {c : Cl} {i : Int} (h : Eg c = false) (h1 : Bu c.pos i = true) : Bu c.neg i = false := by
 cases h2 : Bu c.neg i with
 | false => rfl
 | true =>
  unfold Bu at h1 h2
  simp only [Bool.and_eq_true] at h1 h2
  exact absurd ⟨h1.2, h2.2⟩ (Z1.mp h _)
theorem C8s {c : Cl} {r : List Cl} {i : Int} {P N : Wd} (hw : Xn P N) (hcl : Eg c = false) (h : (Ce i r c).1 = 0) : sat (Ce i r c).2 P N ↔ J6 (A9 c i) P N ∧ (Bu c.pos i = true → sat r P N) ∧ (Bu c.neg i = true → ¬ sat r (coW N) (coW P)) := by
 unfold Ce at h ⊢
 split at h
 ·rename_i h1
  rw [if_pos h1]
  obtain ⟨a1, a2, a3⟩ := Dy h
  rw [a3]
  rw [Tn] at a2 ⊢
  rw [I5 a2, A1q hw, Wl, C8t hw a1]
  have h2 := has_both hcl h1
  exact ⟨fun h => ⟨h.1, fun _ => h.2, fun h3 => by rw [h2] at h3; cases h3⟩, fun h => ⟨h.1, h.2.1 h1⟩⟩
 ·rename_i h1
  rw [if_neg h1]
  split at h
  ·rename_i h2
   rw [if_pos h2]
   obtain ⟨a1, a2, a3⟩ := Dy h
   rw [a3]
   rw [Tn] at a2 ⊢
   rw [I5 a2, A1q hw, Wl, B6y hw a1]
   exact ⟨fun h => ⟨h.1, fun h3 => absurd h3 h1, fun _ => h.2⟩, fun h => ⟨h.1, h.2.2 h2⟩⟩
  ·rename_i h2
   rw [if_neg h2, Nv]
   exact ⟨fun h => ⟨h, fun h3 => absurd h3 h1, fun h3 => absurd h3 h2⟩, fun h => h.1⟩
theorem C5h {c : Cl} {r : List Cl} {i : Int} (hcl : Eg c = false) (h : (Ce i r c).1 = 0) : ∀ d, d ∈ (Ce i r c).2 → Eg d = false := by
 have key : ∀ x : List Cl, (Jk [A9 c i] x).1 = 0 → ∀ d, d ∈ (Jk [A9 c i] x).2 → Eg d = false := by
  intro x hx d hd
  rw [Tn] at hx hd
  have h2 := O5 hx hd
  unfold Er at h2
  simpa using (List.mem_filter.mp h2).2
 unfold Ce at h ⊢
 split at h
 ·rename_i h1
  rw [if_pos h1]
  obtain ⟨a1, a2, a3⟩ := Dy h
  rw [a3]
  exact key _ a2
 ·rename_i h1
  rw [if_neg h1]
  split at h
  ·rename_i h2
   rw [if_pos h2]
   obtain ⟨a1, a2, a3⟩ := Dy h
   rw [a3]
   exact key _ a2
  ·rename_i h2
   rw [if_neg h2]
   intro d hd
   rw [List.mem_singleton] at hd
   subst hd
   exact A3v hcl
theorem Ze {f r : List Cl} {i : Int} (h : (Aw f i r).1 = 0) : A8 f = true ∧ Aa r = true ∧ (0 ≤ i ∧ i < 24) ∧ A8 (Aw f i r).2 = true ∧ ∀ P N, Xn P N → (sat (Aw f i r).2 P N ↔ sat f (ovr P i (sat r P N)) (ovr N i (¬ sat r (coW N) (coW P)))) := by
 unfold Aw at h ⊢
 split at h
 ·cases h
 ·rename_i h1
  rw [if_neg h1]
  simp only [Bool.not_eq_false, Bool.and_eq_true] at h1
  obtain ⟨⟨hf, hi⟩, hr⟩ := h1
  have h3 : 0 ≤ i ∧ i < 24 := by unfold Gc at hi; simpa using hi
  obtain ⟨hff, hfc⟩ := Dg hf
  have hf24 := Hv hff
  refine ⟨hf, hr, h3, ?_⟩
  have h4 := Nh (g := C6 i r) (L := f) (I := fun pre h => A8 h = true ∧ ∀ P N, Xn P N → (sat h P N ↔ ∃ c, c ∈ pre ∧ J6 c (ovr P i (sat r P N)) (ovr N i (¬ sat r (coW N) (coW P))))) (fun pre c h hc hi h0 => by
   unfold C6 at h0 ⊢
   obtain ⟨a1, a2, a3⟩ := Dy h0
   rw [a3]
   unfold Ff at a2 ⊢
   have hcl := hfc c hc
   refine ⟨Qt (Gl a2) fun d hd => ?_, fun P N hw => ?_⟩
   ·rcases List.mem_append.mp (O5 a2 hd) with hd | hd
    ·exact (Dg hi.1).2 d hd
    ·exact C5h hcl a1 d hd
   ·rw [I5 a2, Uz, hi.2 P N hw, C8s hw hcl a1]
    have hc24 := List.all_eq_true.mp hf24 c hc
    simp only [List.mem_append, List.mem_singleton]
    constructor
    ·rintro (⟨d, hd, hs⟩ | hs)
     ·exact ⟨d, .inl hd, hs⟩
     ·exact ⟨c, .inr rfl, (Wm hc24).mpr hs⟩
    ·rintro ⟨d, hd | hd, hs⟩
     ·exact .inl ⟨d, hd, hs⟩
     ·subst hd
      exact .inr ((Wm hc24).mp hs)) f [] [] ⟨by decide, fun P N _ => ⟨fun h => absurd h C0r, fun ⟨c, hc, _⟩ => (by cases hc)⟩⟩ (fun c hc => hc) h
  rw [List.nil_append] at h4
  exact h4
theorem B8v {f r : List Cl} {i : Int} (h : (B5 f i r).1 = 0) : Aa (B5 f i r).2 = true := by
 unfold B5 at h ⊢
 split at h
 ·cases h
 ·rename_i h1
  split at h
  ·cases h
  ·rename_i h2
   rw [if_neg h1, if_neg h2]
   exact Nh (g := C2 i r) (L := f) (I := fun pre h => Aa h = true) (fun pre c h hc hi h0 => by
    unfold C2 at h0 ⊢
    obtain ⟨a1, a2, a3⟩ := Dy h0
    rw [a3]
    obtain ⟨b1, b2, b3⟩ := Dy a2
    rw [b3]
    exact Gl b2) f [] [] Jp (fun c hc => hc) h
def shW (P : Wd) (f b : Int) : Wd := fun j => if (j : Int) < f then P j else P (j + b.toNat)
theorem A6f {c : Cl} {f b : Int} {P N : Wd} (h : (B0 c f b).1 = 0) : J6 (B0 c f b).2 P N ↔ J6 c (shW P f b) (shW N f b) := by
 obtain ⟨hr, h1, h2, h3⟩ := C7g h
 obtain ⟨b1, b2⟩ := Lf hr
 obtain ⟨f0, b0, _⟩ := R8 h1 0
 rw [h3]
 have key : ∀ (s : Nat) (hs : ∀ i, s.testBit i = true → i < 24) (hm : (Aj s f b).1 = 0) (Q : Wd), (∀ i, (Aj s f b).2.testBit i = true → Q i) ↔ ∀ i, s.testBit i = true → shW Q f b i := by
  intro s hs hm Q
  constructor
  ·intro h i hi
   unfold shW
   split
   ·rename_i h4; exact h i ((Je hm i).mpr ⟨i, hs i hi, hi, .inl ⟨h4, rfl⟩⟩)
   ·rename_i h4; exact h _ ((Je hm _).mpr ⟨i, hs i hi, hi, .inr ⟨by omega, by omega⟩⟩)
  ·intro h i hi
   obtain ⟨j, _, hj, h4⟩ := (Je hm i).mp hi
   have h5 := h j hj
   unfold shW at h5
   rcases h4 with ⟨h4, h6⟩ | ⟨h4, h6⟩
   ·rw [if_pos h4] at h5; rw [h6]; exact h5
   ·rw [if_neg A2] at h5; rw [show i = j + b.toNat by omega]; exact h5
 unfold J6
 exact and_congr (key _ b1 h1 P) (key _ b2 h2 N)
theorem B2r {l : List Cl} {f b : Int} {P N : Wd} (h : (An l f b).1 = 0) : sat (An l f b).2 P N ↔ sat l (shW P f b) (shW N f b) := by
 obtain ⟨_, h2, h3⟩ := A3g h
 rw [h3] at h ⊢
 rw [I5 h]
 unfold sat
 simp only [List.mem_map]
 constructor
 ·rintro ⟨_, ⟨c, hc, rfl⟩, hs⟩; exact ⟨c, hc, (A6f (h2 c hc)).mp hs⟩
 ·rintro ⟨c, hc, hs⟩; exact ⟨_, ⟨c, hc, rfl⟩, (A6f (h2 c hc)).mpr hs⟩
theorem E4a (l : List Cl) : (E2 l).length ≤ l.length := by
 have := A1t l l.length
 rwa [B3a] at this
theorem Zs {l : List Cl} (h : l.all Ao = true) (h2 : l.length ≤ 64) : (Ax l).1 = 0 := by
 unfold Ax
 rw [if_neg (by simp [h]), if_neg (by have := E4a l; omega)]
theorem A4p {c : Cl} {i : Int} {P N : Wd} {A A' : Prop} (h : ∀ j : Nat, (c.pos ||| c.neg).testBit j = true → (j : Int) ≠ i) : J6 c (ovr P i A) (ovr N i A') ↔ J6 c P N := by
 unfold J6 ovr
 constructor
 ·rintro ⟨h1, h2⟩
  refine ⟨fun j hj => ?_, fun j hj => ?_⟩
  ·have := h1 j hj; rwa [if_neg (h j (by rw [Nat.testBit_or, hj]; rfl))] at this
  ·have := h2 j hj; rwa [if_neg (h j (by rw [Nat.testBit_or, hj, Bool.or_true]))] at this
 ·rintro ⟨h1, h2⟩
  refine ⟨fun j hj => ?_, fun j hj => ?_⟩
  ·rw [if_neg (h j (by rw [Nat.testBit_or, hj]; rfl))]; exact h1 j hj
  ·rw [if_neg (h j (by rw [Nat.testBit_or, hj, Bool.or_true]))]; exact h2 j hj
theorem D2i {f : List Cl} {i : Int} (hf : f.all Ao = true) (h : Bu (Dl f) i = false) {c : Cl} (hc : c ∈ f) (j : Nat) (hj : (c.pos ||| c.neg).testBit j = true) : (j : Int) ≠ i := by
 intro e
 subst e
 obtain ⟨b1, b2⟩ := Lf (List.all_eq_true.mp hf c hc)
 have hlt : j < 24 := by
  rw [Nat.testBit_or, Bool.or_eq_true] at hj
  exact hj.elim (b1 j) (b2 j)
 unfold Bu at h
 rw [decide_eq_true (show (0 : Int) ≤ (j : Int) by omega), decide_eq_true (show (j : Int) < 24 by omega)] at h
 simp only [Bool.true_and, Int.toNat_natCast] at h
 rw [C6w.mpr ⟨hlt, c, hc, hj⟩] at h
 cases h
theorem B2s {f : List Cl} {i : Int} {P N : Wd} {A A' : Prop} (hf : f.all Ao = true) (h : Bu (Dl f) i = false) : sat f (ovr P i A) (ovr N i A') ↔ sat f P N := by
 unfold sat
 exact exists_congr fun c => and_congr_right fun hc => A4p (fun j hj => D2i hf h hc j hj)
def uE : T := .mk 3 0 ⟨#[]⟩ [] [] []
def aE (t u : T) : T := .mk 6 0 ⟨#[]⟩ [] [t, u] []
def hcF : T := .mk 15 0 ⟨#[]⟩ [] [uE, uE] []
theorem C4b {x : Int × T} {k : T → Int × T} (hx : Rw x.2) (h : ∀ u, Rw u → Rw (k u).2) : Rw (We x k).2 := by
 by_cases h1 : x.1 = 0
 ·rw [Jz h1]; exact h _ hx
 ·rw [J5 h1]; exact Sn
theorem A5b {t : T} {c : Cl} (h : Rw t) : Rw (Bh t c).2 := by
 unfold Bh
 split
 ·exact Sn
 ·split
  ·exact Sn
  ·exact C4b (A6k h) fun u hu => A6k hu
theorem B6q {x : Int × T} {k : T → Int × T} {n : Nat} (hn : 1 ≤ n) (hx : size x.2 ≤ n) (h : ∀ u, size u ≤ n → size (k u).2 ≤ n) : size (We x k).2 ≤ n := by
 by_cases h1 : x.1 = 0
 ·rw [Jz h1]; exact h _ hx
 ·rw [J5 h1]; show size t0 ≤ n; rw [Wi]; exact hn
theorem A3r {t : T} {c : Cl} : size (Bh t c).2 ≤ size t := by
 have hp := size_pos' t
 unfold Bh
 split
 ·show size t0 ≤ _; rw [Wi]; exact hp
 ·split
  ·show size t0 ≤ _; rw [Wi]; exact hp
  ·exact B6q hp (A1v hp (Nat.le_refl _)) fun u hu => A1v hp hu
theorem A9o {a b : Cl} (h : Ao a = true) (h2 : Ao b = true) : Ao (Db a b) = true := by
 obtain ⟨a1, a2⟩ := Cw.mp h
 obtain ⟨b1, b2⟩ := Cw.mp h2
 exact Cw.mpr ⟨Nat.or_lt_two_pow (n := 24) a1 b1, Nat.or_lt_two_pow (n := 24) a2 b2⟩
theorem A8f {f g : List Cl} (h : f.all Ao = true) (h2 : g.all Ao = true) : (I3 f g).all Ao = true := List.all_eq_true.mpr fun c hc => by
 obtain ⟨a, ha, hc⟩ := List.mem_flatMap.mp hc
 obtain ⟨b, hb, rfl⟩ := List.mem_map.mp hc
 exact A9o (List.all_eq_true.mp h a ha) (List.all_eq_true.mp h2 b hb)
theorem D6u {f g : List Cl} (h : f.all Ao = true) (h2 : g.all Ao = true) : (f ++ g).all Ao = true := by rw [List.all_append, h, h2]; rfl
theorem A2m {f : List Cl} (h : (K3 f).1 = 0) : Aa (K3 f).2 = true :=
 Nh (g := D5) (L := f) (I := fun pre h => Aa h = true) (fun pre c h hc hi h0 => by
  unfold D5 at h0 ⊢
  obtain ⟨a1, a2, a3⟩ := Dy h0
  rw [a3]
  exact Gl a2) f [] [A4] Jp (fun c hc => hc) h
theorem E2v {c : Cl} (h : Ao c = true) : Aa [c] = true := by
 unfold Aa
 simp [h, Oz, apart]
theorem B8r {k n : Int} {nm : ByteArray} {r : List Cl} (h : Sy k n nm r) : (k = 14 → A8 r = true) ∧ Aa r = true := by
 obtain ⟨_, _, h3, h4, h5, h6, h7⟩ := h
 refine ⟨h6, ?_⟩
 by_cases e : k = 13 ∨ k = 21 ∨ k = 26
 ·exact h5 e
 ·by_cases e2 : k = 14
  ·exact (Dg (h6 e2)).1
  ·rw [h7 A2]; decide
theorem C9r {P : List Cl → Int → List Cl → EL} {i d : Int} {r f : List Cl} (h : Bu (Dl f) (i + d) = false) : Cn P i r d f = (0, f) := by
 unfold Cn
 rw [if_pos h]
theorem C8m (N : Wd) (f b : Int) : shW (coW N) f b = coW (shW N f b) := by
 funext j
 unfold shW coW
 by_cases h : (j : Int) < f
 ·simp only [if_pos h]
 ·simp only [if_neg h]
def atP (r : List Cl) (d : Int) (P N : Wd) : Prop := sat r (shW P 0 d) (shW N 0 d)
def atN (r : List Cl) (d : Int) (P N : Wd) : Prop := ¬ sat r (coW (shW N 0 d)) (coW (shW P 0 d))
theorem B6a {r : List Cl} {d : Int} {P N : Wd} (h : (An r 0 d).1 = 0) : sat (An r 0 d).2 P N ↔ atP r d P N := B2r h
theorem B6b {r : List Cl} {d : Int} {P N : Wd} (h : (An r 0 d).1 = 0) : (¬ sat (An r 0 d).2 (coW N) (coW P)) ↔ atN r d P N := by
 unfold atN
 rw [B2r h, C8m, C8m]
theorem B2p {f r x : List Cl} {i d : Int} {P N : Wd} (hf : Aa f = true) (h : Cn B5 i r d f = (0, x)) : Aa x = true ∧ (sat x P N ↔ sat f (ovr P (i + d) (atP r d P N)) (ovr N (i + d) (atN r d P N))) := by
 unfold Cn at h
 split at h
 ·rename_i h1
  injection h with _ h
  subst h
  exact ⟨hf, (B2s (Hv hf) h1).symm⟩
 ·obtain ⟨a1, a2, a3⟩ := Dy (by rw [h] : (J0 (An r 0 d) fun s => B5 f (i + d) s).1 = 0)
  rw [a3] at h
  have h0 : (B5 f (i + d) (An r 0 d).2).1 = 0 := by rw [h]
  have hx : x = (B5 f (i + d) (An r 0 d).2).2 := by rw [h]
  rw [hx]
  refine ⟨B8v h0, ?_⟩
  rw [(B2t h0).2.2.2]
  rw [propext (B6a (P := P) (N := N) a1), propext (B6b (P := P) (N := N) a1)]
theorem B2q {f r x : List Cl} {i d : Int} (hf : A8 f = true) (h : Cn Aw i r d f = (0, x)) : A8 x = true ∧ ∀ P N, Xn P N → (sat x P N ↔ sat f (ovr P (i + d) (atP r d P N)) (ovr N (i + d) (atN r d P N))) := by
 unfold Cn at h
 split at h
 ·rename_i h1
  injection h with _ h
  subst h
  exact ⟨hf, fun P N _ => (B2s (Hv (Dg hf).1) h1).symm⟩
 ·obtain ⟨a1, a2, a3⟩ := Dy (by rw [h] : (J0 (An r 0 d) fun s => Aw f (i + d) s).1 = 0)
  rw [a3] at h
  have h0 : (Aw f (i + d) (An r 0 d).2).1 = 0 := by rw [h]
  have hx : x = (Aw f (i + d) (An r 0 d).2).2 := by rw [h]
  rw [hx]
  refine ⟨(Ze h0).2.2.2.1, fun P N hw => ?_⟩
  rw [(Ze h0).2.2.2.2 P N hw]
  rw [propext (B6a (P := P) (N := N) a1), propext (B6b (P := P) (N := N) a1)]
theorem C6l {f g : List Cl} (h : (C5 f g).1 = 0) : (C5 f g).2.length ≤ 64 ∧ A8 (C5 f g).2 = true := by
 unfold C5 at h ⊢
 split at h
 ·cases h
 ·rename_i h1
  rw [if_neg h1]
  simp only [Bool.not_eq_false, Bool.and_eq_true] at h1
  unfold Ff at h ⊢
  have hr := Gl h
  refine ⟨I6 hr, Qt hr fun c hc => ?_⟩
  rcases List.mem_append.mp (O5 h hc) with hc | hc
  ·exact (Dg h1.1).2 c hc
  ·exact (Dg h1.2).2 c hc
theorem P5 {l : List Cl} (h : (Ax l).1 ≠ 0) : (Ax l).2 = [] := by
 unfold Ax at h ⊢
 (repeat' split) <;> simp_all
theorem C6m {f g : List Cl} (h : (C5 f g).1 ≠ 0) : (C5 f g).2 = [] := by
 unfold C5 at h ⊢
 split
 ·rfl
 ·rename_i h1
  rw [if_neg h1] at h
  unfold Ff at h ⊢
  exact P5 h
section
variable {C : Type} {A : Tr C}
end
def Fu (l : List Cl) : List Cl := l.filter fun c => !Lg c
theorem C7h {l : List Cl} {i : Nat} (h : i < l.length) (hc : Lg (l.getD i A4) = false) : Fu (l.take (i + 1)) = Fu (l.take i) ++ [l.getD i A4] := by
 unfold Fu
 rw [Ad (d := A4) h, List.filter_append, List.filter_cons, if_pos (by rw [hc]; rfl), List.filter_nil]
theorem D3j {l : List Cl} {i : Nat} (h : i < l.length) (hc : Lg (l.getD i A4) = true) : Fu (l.take (i + 1)) = Fu (l.take i) := by
 unfold Fu
 rw [Ad (d := A4) h, List.filter_append, List.filter_cons, if_neg (by rw [hc]; decide), List.filter_nil, List.append_nil]
theorem A7y (l : List Cl) : (Fu l).length ≤ l.length := List.length_filter_le _ _
theorem Yf {l : List Cl} (h : l.all Ao = true) : Fu l = Er l := by
 unfold Fu Er
 refine List.filter_congr fun c hc => ?_
 rw [Ti (List.all_eq_true.mp h c hc)]
theorem A3x {l : List Cl} (h : ∀ c, c ∈ l → Eg c = false) : Er l = l := by
 unfold Er
 exact List.filter_eq_self.mpr fun c hc => by rw [h c hc]; rfl
theorem A3c {f g : List Cl} : C5 f g = if (A8 f && A8 g) = false then (2, []) else Ax (Fu (f ++ g)) := by
 unfold C5
 split
 ·rfl
 ·rename_i h
  simp only [Bool.not_eq_false, Bool.and_eq_true] at h
  rw [Yf (D6u (Hv (Dg h.1).1) (Hv (Dg h.2).1)), A3x fun c hc => (List.mem_append.mp hc).elim ((Dg h.1).2 c) ((Dg h.2).2 c)]
  rfl
def Mz (d : Int) : List T → Int
 | [] => 0
 | t :: ts => if Fc t ts.length d ≠ 0 then Fc t ts.length d else Mz d ts
def Ag (ts : List T) (d : Int) : Int := if d < 0 ∨ 24 < d then 2 else if 200 < ts.length then 62 else Mz d ts
theorem Vk {d : Int} : ∀ {ts : List T} {i : Nat}, i < ts.length → (∀ j, j < i → Fc (ts.getD j t0) ((ts.length : Int) - 1 - j) d = 0) → Fc (ts.getD i t0) ((ts.length : Int) - 1 - i) d ≠ 0 → Mz d ts = Fc (ts.getD i t0) ((ts.length : Int) - 1 - i) d
 | [], i, h, _, _ => absurd h E5
 | t :: ts, 0, h, _, h2 => by
  simp only [List.getD_cons_zero, List.length_cons] at h2 ⊢
  rw [show ((ts.length + 1 : Nat) : Int) - 1 - ((0 : Nat) : Int) = ts.length by omega] at h2 ⊢
  rw [Mz, if_pos h2]
 | t :: ts, i + 1, h, h1, h2 => by
  have h0 := h1 0 A2
  simp only [List.getD_cons_zero, List.length_cons] at h0
  rw [show ((ts.length + 1 : Nat) : Int) - 1 - ((0 : Nat) : Int) = ts.length by omega] at h0
  rw [Mz, if_neg (by simp [h0])]
  simp only [List.getD_cons_succ, List.length_cons] at h2 ⊢
  rw [show ((ts.length + 1 : Nat) : Int) - 1 - ((i + 1 : Nat) : Int) = ts.length - 1 - i by omega] at h2 ⊢
  refine Vk (by simpa using h) (fun j hj => ?_) h2
  have := h1 (j + 1) A2
  simp only [List.getD_cons_succ, List.length_cons] at this
  rwa [show ((ts.length + 1 : Nat) : Int) - 1 - ((j + 1 : Nat) : Int) = ts.length - 1 - j by omega] at this
theorem Qs {d : Int} : ∀ {ts : List T}, (∀ j, j < ts.length → Fc (ts.getD j t0) ((ts.length : Int) - 1 - j) d = 0) ↔ Mz d ts = 0
 | [] => by simp [Mz]
 | t :: ts => by
  have e0 : ((ts.length + 1 : Nat) : Int) - 1 - ((0 : Nat) : Int) = ts.length := by omega
  constructor
  ·intro h
   have h0 := h 0 E5
   simp only [List.getD_cons_zero, List.length_cons] at h0
   rw [e0] at h0
   rw [Mz, if_neg (by simp [h0])]
   refine Qs.mp fun j hj => ?_
   have := h (j + 1) (by simpa using hj)
   simp only [List.getD_cons_succ, List.length_cons] at this
   rwa [show ((ts.length + 1 : Nat) : Int) - 1 - ((j + 1 : Nat) : Int) = ts.length - 1 - j by omega] at this
  ·intro h j hj
   rw [Mz] at h
   by_cases h0 : Fc t ts.length d ≠ 0
   ·rw [if_pos h0] at h; exact absurd h h0
   ·rw [if_neg h0] at h
    cases j with
    | zero => simp only [List.getD_cons_zero, List.length_cons]; rw [e0]; omega
    | succ j =>
     simp only [List.getD_cons_succ, List.length_cons]
     rw [show ((ts.length + 1 : Nat) : Int) - 1 - ((j + 1 : Nat) : Int) = ts.length - 1 - j by omega]
     exact Qs.mpr h j (by simpa using hj)
theorem Ek {ts : List T} {d : Int} : Ag ts d = 0 ↔ 0 ≤ d ∧ d ≤ 24 ∧ ts.length ≤ 200 ∧ Mz d ts = 0 := by
 unfold Ag
 split
 ·omega
 ·split <;> omega
def Iw (r : T → Int × T) : List T → Int × List T
 | [] => (0, [])
 | t :: ts => if (r t).1 ≠ 0 then ((r t).1, []) else if (Iw r ts).1 ≠ 0 then ((Iw r ts).1, []) else (0, (r t).2 :: (Iw r ts).2)
theorem B5o {r : T → Int × T} : ∀ {ts : List T}, (∀ j, j < ts.length → (r (ts.getD j t0)).1 = 0) → Iw r ts = (0, ts.map fun t => (r t).2)
 | [], _ => rfl
 | t :: ts, h => by
  have h0 := h 0 E5
  rw [List.getD_cons_zero] at h0
  have ih := B5o (r := r) (ts := ts) fun j hj => by have := h (j + 1) (by simpa using hj); rwa [List.getD_cons_succ] at this
  rw [Iw, if_neg (by simp [h0]), ih, if_neg E5]
  rfl
theorem A7v {r : T → Int × T} : ∀ {ts : List T} {i : Nat}, i < ts.length → (∀ j, j < i → (r (ts.getD j t0)).1 = 0) → (r (ts.getD i t0)).1 ≠ 0 → Iw r ts = ((r (ts.getD i t0)).1, [])
 | [], i, h, _, _ => absurd h E5
 | t :: ts, 0, h, _, h2 => by
  rw [List.getD_cons_zero] at h2 ⊢
  rw [Iw, if_pos h2]
 | t :: ts, i + 1, h, h1, h2 => by
  have h0 := h1 0 A2
  rw [List.getD_cons_zero] at h0
  rw [List.getD_cons_succ] at h2 ⊢
  have ih := A7v (r := r) (ts := ts) (i := i) (by simpa using h) (fun j hj => by have := h1 (j + 1) A2; rwa [List.getD_cons_succ] at this) h2
  rw [Iw, if_neg (by simp [h0]), ih, if_pos h2]
abbrev Cx : Type := Int × List T × Int
def Ix (ts : List T) (d : Int) : Cx := if Ag ts d ≠ 0 then (Ag ts d, [], 0) else (0, ts, d)
def Cv (ts : List T) (d n : Int) : Int × T := if Ag ts d ≠ 0 then (Ag ts d, t0) else if n < 0 ∨ (ts.length : Int) ≤ n then (90, t0) else E4 (ts.getD n.toNat t0) 0 (n + 1)
theorem A5z {t : T} : ∀ {ts : List T}, t ∈ ts → size t ≤ Km ts
 | [], h => by cases h
 | a :: ts, h => by
  rw [Km]
  rcases List.mem_cons.mp h with rfl | h
  ·omega
  ·have := A5z h; omega
theorem A6a : ∀ ts : List T, ts.length ≤ Km ts
 | [] => by simp [Km]
 | a :: ts => by
  rw [Km, List.length_cons]
  have := A6a ts
  have := size_pos' a
  omega
def Kq (ts : List T) : T := .mk 0 0 ⟨#[]⟩ [] ts []
theorem C5t {ts : List T} {m : Nat} (h : Iz (Kq ts) ≤ m) : (∀ t, t ∈ ts → size t ≤ m) ∧ ts.length ≤ m := by
 have h1 := A9b (Kq ts)
 have h2 := R0 (Kq ts)
 have h3 : (Kq ts).kids = ts := rfl
 rw [h3] at h2
 have h4 := A6a ts
 exact ⟨fun t ht => by have := A5z ht; omega, by omega⟩
theorem C2t : Cv [vE 0, uE] 0 0 = (0, vE 1) := by decide +kernel
theorem C2s : Cv [vE 0, uE] 0 1 = (0, uE) := by decide +kernel
theorem D3a : (Cv [vE 0, uE] 0 ((0 : Nat) : Int)).1 = 0 := by rw [show ((0 : Nat) : Int) = 0 from rfl, C2t]
theorem D2z : (Cv [vE 0, uE] 0 ((0 : Nat) : Int)).2 = vE 1 := by rw [show ((0 : Nat) : Int) = 0 from rfl, C2t]
theorem D2y : (Cv [vE 0, uE] 0 ((1 : Nat) : Int)).1 = 0 := by rw [show ((1 : Nat) : Int) = 1 from rfl, C2s]
theorem D2x : (Cv [vE 0, uE] 0 ((1 : Nat) : Int)).2 = uE := by rw [show ((1 : Nat) : Int) = 1 from rfl, C2s]
theorem Zx : ∀ t, t ∈ [vE 0, uE] → size t ≤ 1152921504606846 := by
 intro t ht
 have h : size (vE 0) = 1 ∧ size uE = 1 := by decide +kernel
 rcases List.mem_cons.mp ht with rfl | ht
 ·omega
 ·rcases List.mem_cons.mp ht with rfl | ht
  ·omega
  ·cases ht
def Hq (t : T) (a b : Int) : Int := if C0 t ≠ 0 then C0 t else if a < 0 ∨ b < 0 then 2 else 0
def Ph (t : T) (f b : Int) : Int := if Hq t f b = 0 ∧ 1000000 < b then 2 else Hq t f b
def K4 (x : T) : Int × T := if x.kind < 0 then (-x.kind, t0) else (0, x)
theorem C6y {vb db : Int} {t : T} {v d : Int} (hf : Ep t) : K4 (Fx vb db t v d) = Lw (Cq (Ct vb db) t (v, d)) := by
 unfold K4
 rcases Ks (vb := vb) (db := db) (v := v) (d := d) hf with ⟨h1, h2⟩ | ⟨e, h1, h2, h3⟩
 ·rw [if_neg A2, h1]; rfl
 ·rw [h3, if_pos (J8 h1), h2]
  show (-(-e), t0) = (e, t0)
  rw [Int.neg_neg]
theorem B4p {vb db : Int} : ∀ (t : T) {c : Int × Int} {e : Int}, Cq (Ct vb db) t c = .bad e → e ≤ 100 := T.ind fun t ih c e h => by
 have hr : ∀ {l : List Cl} {f e : Int}, Cp db l f = .bad e → e ≤ 100 := fun {l f e} h => by
  unfold Cp at h
  split at h
  ·cases h
  ·split at h
   ·cases h
   ·injection h with h
    have := A0s (l := l) (f := f) (b := db)
    omega
 rcases Wb h with h1 | ⟨b, _, h1⟩ | ⟨p, hp, h1 | ⟨c', _, h2⟩⟩
 ·rw [Zo] at h1
  rcases D8 h1 with h2 | ⟨g, _, h2⟩
  ·exact hr h2
  ·split at h2
   ·injection h2 with h2; omega
   ·cases h2
 ·rw [Uh] at h1
  rcases D8 h1 with h2 | ⟨g, _, h2⟩
  ·exact hr h2
  ·cases h2
 ·cases h1
 ·exact ih p hp h2
theorem B1s {t : T} {a b : Int} : Hq t a b = 0 ↔ C0 t = 0 ∧ 0 ≤ a ∧ 0 ≤ b := by
 unfold Hq
 split
 ·rename_i h; simp [h]
 ·rename_i h
  split <;> omega
theorem B6m {t : T} {f b : Int} (hb : Ak b) (h : Ph t f b ≠ 0) : E4 t f b = (Ph t f b, t0) := by
 unfold Ph at h ⊢
 unfold E4 Cm
 by_cases h1 : C0 t ≠ 0
 ·have h2 : Hq t f b = C0 t := by unfold Hq; rw [if_pos h1]
  rw [if_pos h1, h2, if_neg (fun h3 => h1 h3.1)]
 ·rw [if_neg h1]
  by_cases h2 : f < 0 ∨ b < 0
  ·have h3 : Hq t f b = 2 := by unfold Hq; rw [if_neg h1, if_pos h2]
   rw [if_pos (by simp; omega), h3, if_neg A2]
  ·have h3 : Hq t f b = 0 := by unfold Hq; rw [if_neg h1, if_neg h2]
   rw [h3] at h ⊢
   by_cases h4 : 1000000 < b
   ·rw [if_pos (by have := C2f hb A2; simp; omega), if_pos ⟨rfl, h4⟩]
   ·rw [if_neg (fun h5 => h4 h5.2)] at h; exact absurd rfl h
theorem B6n {t : T} {f b : Int} (hb : Ak b) (h : Ph t f b = 0) : C0 t = 0 ∧ 0 ≤ f ∧ 0 ≤ b ∧ b ≤ 1000000 ∧ E4 t f b = Lw (A5j t f b) := by
 unfold Ph at h
 by_cases h1 : Hq t f b = 0
 ·obtain ⟨h2, h3, h4⟩ := B1s.mp h1
  by_cases h5 : 1000000 < b
  ·rw [if_pos ⟨h1, h5⟩] at h; cases h
  ·exact ⟨h2, h3, h4, by omega, D2k h2 (by have := C5v h4 A2; simp [h3, h4, this])⟩
 ·rw [if_neg (fun h2 => h1 h2.1)] at h; exact absurd h h1
end Go.Hy
