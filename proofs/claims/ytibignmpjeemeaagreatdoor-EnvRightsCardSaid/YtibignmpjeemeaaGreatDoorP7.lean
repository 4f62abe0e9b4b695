/- Contracts of this program's functions and the laws that they need. -/
import Derived.Lib.TrailingZeros
import Derived.LaidMore
import Derived.OpenShut
import Derived.Stop.Joined
import Derived.MakeChecks
import Derived.Shelf.Spec.TrailingZeros
import Derived.RangeFuncNested
import Derived.RangeFuncBound
import Derived.RangeFuncCalls
import Derived.RangeFuncLeaves
import Derived.RangeFuncBox
import Derived.Shelf.Abstract
import Derived.Shelf.RegionOpen
import Derived.WalkKit
import Derived.OwnWalkIn
import Derived.TacticsInMore
import Derived.LoopNIn
import Derived.LoopIn
import Derived.Test.YtibignmpjeemeaaGreatDoorP6
set_option linter.unusedVariables false
set_option linter.unusedSimpArgs false
set_option linter.unusedSectionVars false
namespace Go.Hy
def Sk (k n : Int) (nm : ByteArray) (r : List Cl) : Prop :=
 (k ≠ 1 → n = 0) ∧ (k ≠ 2 → nm.toList = (ByteArray.mk #[]).toList) ∧ (k = 1 → r = [] ∧ 0 ≤ n) ∧ (k = 2 → r = [] ∧ Gx nm = true) ∧ (k = 13 ∨ k = 21 ∨ k = 26 → Ab r = true) ∧ (k = 14 → A7 r = true) ∧ (k ≠ 13 ∧ k ≠ 21 ∧ k ≠ 26 ∧ k ≠ 14 → r = [])
mutual
def Hl : T → Prop
 | .mk k n nm r ks ss => Sk k n nm r ∧ Ce k = (ks.length : Int) ∧ (C5 k = 0 → ss = []) ∧ Tn ks ∧ Yw k ss
def Tn : List T → Prop
 | [] => True
 | t :: ts => Hl t ∧ Tn ts
def Yw (k : Int) : List Br → Prop
 | [] => True
 | .mk f ks :: bs => (ks.length : Int) = C5 k ∧ A7 f = true ∧ Tn ks ∧ Yw k bs
end
theorem F9 {k : Int} (h : k = 1 ∨ k = 2 ∨ k = 13 ∨ k = 21 ∨ k = 26 ∨ k = 14) : C5 k = 0 := by
 unfold C5
 rcases h with h | h | h | h | h | h <;> subst h <;> decide
theorem S2 (l : List Cl) {d : Int} (h : 24 ≤ d) : within l d = true := by unfold within; rw [decide_eq_true h]; rfl
theorem len_nil {α : Type} {l : List α} : ((l.length : Int) = 0) ↔ l = [] := by
 constructor
 ·intro h; exact List.eq_nil_of_length_eq_zero A2
 ·rintro rfl; rfl
theorem Sh {k n : Int} {nm : ByteArray} {r : List Cl} {ks : List T} {ss : List Br} {d : Int} (hd : 24 ≤ d) : Io (.mk k n nm r ks ss) (-1) d = true ↔ Sk k n nm r ∧ Ce k = (ks.length : Int) ∧ (C5 k = 0 → ss = []) ∧ ∀ b, b ∈ ss → (b.kids.length : Int) = C5 k ∧ A7 b.B4 = true := by
 have hB : ∀ b : Br, J7 (.mk k n nm r ks ss) d b = (decide ((b.kids.length : Int) = C5 k) && A7 b.B4) := fun b => by
  unfold J7; rw [S2 _ hd, Bool.and_true]; rfl
 have hL : (0 : Int) < (ss.length : Int) ↔ ss ≠ [] := by
  constructor
  ·intro h e; subst e; simp at h
  ·intro h; have := List.length_pos_iff.mpr h; omega
 have hs : ∀ p : Bool, (ss.all (J7 (.mk k n nm r ks ss) d) = true) ↔ ∀ b, b ∈ ss → (b.kids.length : Int) = C5 k ∧ A7 b.B4 = true := fun _ => by
  rw [List.all_eq_true]
  exact forall_congr' fun b => forall_congr' fun _ => by rw [hB]; simp
 unfold Io Gq Sk
 simp only [T.kind, T.n, T.name, T.r, T.kids, T.sys, S2 _ hd, Bool.and_true, Bool.and_eq_true, Bool.not_eq_true', Bool.or_eq_false_iff, Bool.and_eq_false_iff, decide_eq_false_iff_not, Decidable.not_not, ne_eq, Int.not_lt, Bool.not_eq_false', beq_iff_eq]
 constructor
 ·rintro ⟨⟨⟨⟨h1, h2⟩, h3⟩, h4⟩, h5⟩
  replace h1 : Ce k = (ks.length : Int) := Decidable.not_not.mp (of_decide_eq_false h1)
  replace h2 : k = 1 ∨ n = 0 := h2.imp (fun h => Decidable.not_not.mp (of_decide_eq_false h)) (fun h => Decidable.not_not.mp (of_decide_eq_false h))
  replace h3 : k = 2 ∨ nm.toList = (ByteArray.mk #[]).toList := h3.imp (fun h => Decidable.not_not.mp (of_decide_eq_false h)) id
  replace h4 : ¬ C5 k = 0 ∨ ¬ (0 : Int) < (ss.length : Int) := h4.imp (fun h => of_decide_eq_false h) (fun h => of_decide_eq_false h)
  have hss : C5 k = 0 → ss = [] := by
   intro h
   rcases h4 with h4 | h4
   ·exact absurd h h4
   ·exact List.eq_nil_of_length_eq_zero A2
  split at h5
  ·rename_i hk
   have he := hss (F9 A2)
   subst he
   simp only [Bool.and_eq_true, decide_eq_true_eq] at h5
   exact ⟨⟨by omega, fun _ => h3.resolve_left A2, fun _ => ⟨len_nil.mp (of_decide_eq_true h5.1.1), of_decide_eq_true h5.1.2⟩, by omega, by omega, by omega, fun _ => len_nil.mp (of_decide_eq_true h5.1.1)⟩, h1, hss, fun b hb => by cases hb⟩
  ·split at h5
   ·rename_i hk1 hk
    have he := hss (F9 A2)
    subst he
    simp only [Bool.and_eq_true, decide_eq_true_eq] at h5
    exact ⟨⟨by omega, fun h => absurd hk h, by omega, fun _ => ⟨len_nil.mp (of_decide_eq_true h5.1), h5.2⟩, by omega, by omega, fun _ => len_nil.mp (of_decide_eq_true h5.1)⟩, h1, hss, fun b hb => by cases hb⟩
   ·split at h5
    ·rename_i hk1 hk2 hk
     have he := hss (F9 A2)
     subst he
     exact ⟨⟨by omega, fun _ => h3.resolve_left A2, by omega, by omega, fun _ => h5, by omega, by omega⟩, h1, hss, fun b hb => by cases hb⟩
    ·split at h5
     ·rename_i hk1 hk2 hk3 hk
      have he := hss (F9 A2)
      subst he
      exact ⟨⟨by omega, fun _ => h3.resolve_left A2, by omega, by omega, by omega, fun _ => h5, by omega⟩, h1, hss, fun b hb => by cases hb⟩
     ·rename_i hk1 hk2 hk3 hk4
      simp only [Bool.and_eq_true, decide_eq_true_eq] at h5
      exact ⟨⟨by omega, fun _ => h3.resolve_left A2, by omega, by omega, by omega, by omega, fun _ => len_nil.mp (of_decide_eq_true h5.2)⟩, h1, hss, (hs true).mp h5.1⟩
 ·rintro ⟨⟨a1, a2, a3, a4, a5, a6, a7⟩, b1, b2, b3⟩
  refine ⟨⟨⟨⟨decide_eq_false (Decidable.not_not.mpr b1), ?_⟩, ?_⟩, ?_⟩, ?_⟩
  ·by_cases h : k = 1
   ·exact .inl (decide_eq_false (Decidable.not_not.mpr h))
   ·exact .inr (decide_eq_false (Decidable.not_not.mpr (a1 h)))
  ·by_cases h : k = 2
   ·exact .inl (decide_eq_false (Decidable.not_not.mpr h))
   ·exact .inr (a2 h)
  ·by_cases h : C5 k = 0
   ·exact .inr (decide_eq_false (by rw [b2 h]; decide))
   ·exact .inl (decide_eq_false h)
  ·split
   ·rename_i h; simp [(a3 h).1, (a3 h).2]
   ·split
    ·rename_i h; simp [(a4 h).1, (a4 h).2]
    ·split
     ·rename_i h; exact a5 h
     ·split
      ·rename_i h; exact a6 h
      ·rename_i h1 h2 h3 h4
       rw [Bool.and_eq_true, (hs true)]
       exact ⟨b3, by simp [a7 A2]⟩
theorem Om : ∀ {ts : List T}, Tn ts ↔ ∀ t, t ∈ ts → Hl t
 | [] => by simp [Tn]
 | t :: ts => by simp [Tn, Om (ts := ts)]
theorem Sn {k : Int} : ∀ {bs : List Br}, Yw k bs ↔ ∀ b, b ∈ bs → (b.kids.length : Int) = C5 k ∧ A7 b.B4 = true ∧ Tn b.kids
 | [] => by simp [Yw]
 | .mk f ks :: bs => by
  simp only [Yw, Sn (bs := bs), List.forall_mem_cons, Br.kids, Br.B4]
  constructor
  ·rintro ⟨h1, h2, h3, h4⟩; exact ⟨⟨h1, h2, h3⟩, h4⟩
  ·rintro ⟨⟨h1, h2, h3⟩, h4⟩; exact ⟨h1, h2, h3, h4⟩
theorem Ol {t : T} : Hl t ↔ Sk t.kind t.n t.name t.r ∧ Ce t.kind = (t.kids.length : Int) ∧ (C5 t.kind = 0 → t.sys = []) ∧ Tn t.kids ∧ Yw t.kind t.sys := by
 obtain ⟨k, n, nm, r, ks, ss⟩ := t
 simp only [Hl, T.kind, T.n, T.name, T.r, T.kids, T.sys]
theorem W5 {t : T} : Hl t ↔ (∀ d : Int, 24 ≤ d → Io t (-1) d = true) ∧ ∀ p, p ∈ parts t → Hl p.1 := by
 rw [Ol, Om, Sn]
 have ho : ∀ d : Int, 24 ≤ d → (Io t (-1) d = true ↔ Sk t.kind t.n t.name t.r ∧ Ce t.kind = (t.kids.length : Int) ∧ (C5 t.kind = 0 → t.sys = []) ∧ ∀ b, b ∈ t.sys → (b.kids.length : Int) = C5 t.kind ∧ A7 b.B4 = true) := by
  intro d hd
  obtain ⟨k, n, nm, r, ks, ss⟩ := t
  exact Sh hd
 constructor
 ·rintro ⟨h1, h2, h3, h4, h5⟩
  refine ⟨fun d hd => (ho d hd).mpr ⟨h1, h2, h3, fun b hb => ⟨(h5 b hb).1, (h5 b hb).2.1⟩⟩, fun p hp => ?_⟩
  rcases V7 hp with ⟨i, hi, rfl⟩ | ⟨s, k, hs, hk, rfl⟩
  ·exact h4 _ (A9 hi)
  ·exact Om.mp (h5 _ (A9 hs)).2.2 _ (A9 hk)
 ·rintro ⟨h1, h2⟩
  obtain ⟨a1, a2, a3, a4⟩ := (ho 24 A2).mp (h1 24 A2)
  refine ⟨a1, a2, a3, fun k hk => ?_, fun b hb => ⟨(a4 b hb).1, (a4 b hb).2, Om.mpr fun k hk => ?_⟩⟩
  ·obtain ⟨p, hp, e⟩ := Fy hk; exact e ▸ h2 p hp
  ·obtain ⟨p, hp, e⟩ := Fw hb hk; exact e ▸ h2 p hp
section
variable {C : Type} {A : Tr C}
end
section
variable {CA CB CC : Type} {A : Tr CA} {B : Tr CB} {D : Tr CC} (R : CA → CB → CC → Prop)
variable {R}
end
section
variable {CA CC : Type} {A : Tr CA} {D : Tr CC} (R : CA → CC → Prop)
variable {R}
end
theorem Rb {s : Nat} {f b : Int} (h : (As s f b).1 = 0) (i : Nat) : 0 ≤ f ∧ 0 ≤ b ∧ (As s f b).2.testBit i = ((decide (i < min f.toNat 24) && (s &&& 16777215).testBit i) || (decide (min f.toNat 24 + b.toNat ≤ i) && (s &&& 16777215).testBit (i - b.toNat))) := by
 by_cases h0 : f < 0 ∨ b < 0
 ·rw [As, if_pos h0] at h; cases h
 ·have hq : ∀ j, (s &&& 16777215).testBit j = true → j < 24 := fun j hj => by rw [Gs, Bool.and_eq_true, decide_eq_true_eq] at hj; exact hj.1
  refine ⟨by omega, by omega, ?_⟩
  generalize hF : min f.toNat 24 = F at *
  by_cases h1 : Bf (s &&& 16777215) (2 ^ (min f.toNat 24) - 1) = 0
  ·rw [As, if_neg h0, if_pos h1]
   show ((s &&& 16777215) &&& (2 ^ (min f.toNat 24) - 1)).testBit i = _
   rw [hF] at h1 ⊢
   rw [Nat.testBit_and, Lm]
   have h2 : (decide (F + b.toNat ≤ i) && (s &&& 16777215).testBit (i - b.toNat)) = false := by
    cases h3 : (s &&& 16777215).testBit (i - b.toNat) with
    | false => rw [Bool.and_false]
    | true =>
     rw [Bool.and_true]
     refine decide_eq_false (fun h4 => ?_)
     have h5 : (Bf (s &&& 16777215) (2 ^ F - 1)).testBit (i - b.toNat) = true := by
      rw [I1, Lm, h3, decide_eq_true (by have := hq _ h3; omega), decide_eq_false A2]; rfl
     rw [h1, Nat.zero_testBit] at h5
     cases h5
   rw [h2, Bool.or_false, Bool.and_comm]
  ·by_cases h2 : 24 ≤ b ∨ 16777215 < Bf (s &&& 16777215) (2 ^ (min f.toNat 24) - 1) * 2 ^ b.toNat
   ·rw [As, if_neg h0, if_neg h1, if_pos h2] at h; cases h
   ·rw [As, if_neg h0, if_neg h1, if_neg h2]
    show (((s &&& 16777215) &&& (2 ^ (min f.toNat 24) - 1)) ||| (Bf (s &&& 16777215) (2 ^ (min f.toNat 24) - 1) * 2 ^ b.toNat)).testBit i = _
    rw [hF, Nat.testBit_or, Nat.testBit_and, Lm, Nat.testBit_mul_two_pow, I1, Lm]
    cases h3 : (s &&& 16777215).testBit (i - b.toNat) with
    | false => simp [Bool.and_comm]
    | true =>
     have h4 := hq _ h3
     rw [decide_eq_true (show i - b.toNat < 32 by omega)]
     simp only [Bool.and_true, Bool.true_and]
     rw [Bool.and_comm]
     congr 1
     by_cases h5 : F + b.toNat ≤ i
     ·rw [decide_eq_true (show b.toNat ≤ i by omega), decide_eq_false (show ¬ i - b.toNat < F by omega), decide_eq_true h5]; rfl
     ·rw [decide_eq_false h5]
      by_cases h6 : b.toNat ≤ i
      ·rw [decide_eq_true h6, decide_eq_true (show i - b.toNat < F by omega)]; rfl
      ·rw [decide_eq_false h6]; rfl
theorem Rh (l : List Cl) : ((Bc l).1 = 0 ∧ l.all B3 = true ∧ (Bc l).2 = Eh l ∧ (Eh l).length ≤ 64) ∨ (Bc l).1 = 2 ∨ (Bc l).1 = 3 := by
 unfold Bc
 split
 ·exact .inr (.inl rfl)
 ·rename_i h1
  split
  ·exact .inr (.inr rfl)
  ·rename_i h2
   exact .inl ⟨rfl, by simpa using h1, rfl, by omega⟩
theorem Vy {l : List Cl} {f b : Int} (h : (Ae l f b).1 = 0) : Ab l = true ∧ (∀ c, c ∈ l → (Bh c f b).1 = 0) ∧ Ae l f b = Bc (l.map fun c => (Bh c f b).2) := by
 unfold Ae at h ⊢
 split at h
 ·cases h
 ·rename_i h1
  split at h
  ·rename_i h2; exact absurd h h2
  ·rename_i h2
   have h3 : (Ej (fun c => Bh c f b) l).1 = 0 := Decidable.not_not.mp h2
   rw [if_neg h1, if_neg h2]
   exact ⟨by simpa using h1, Yu.mp h3, by rw [B5p h3]⟩
section
variable {C : Type} {A : Tr C}
end
theorem A4y {vb db : Int} {c : Int × Int} {k n : Int} {nm : ByteArray} {r : List Cl} : (Ci vb db).own c k n nm r = (Cc db r c.2).bind fun r' => if k = 1 ∧ c.1 ≤ n ∧ 1000000000 - vb < n then .bad 100 else .ok (.inr (Jd vb c.1 k n, r')) := by
 simp only [Ci, Jd]
 congr 1
 funext g
 by_cases h1 : k = 1 ∧ c.1 ≤ n
 ·rw [if_pos h1, if_pos h1]
  by_cases h2 : 1000000000 - vb < n
  ·rw [if_pos h2, if_pos ⟨h1.1, h1.2, h2⟩]
  ·rw [if_neg h2, if_neg (fun h => h2 h.2.2)]
 ·rw [if_neg h1, if_neg h1, if_neg (fun h => h1 ⟨h.1, h.2.1⟩)]
theorem Xh {vb db : Int} {c : Int × Int} {f : List Cl} : (Ci vb db).B4 c f = (Cc db f c.2).bind fun f' => .ok (some f') := rfl
theorem A9l (c : Cl) (f b : Int) : (Bh c f b).1 = 0 ∨ (Bh c f b).1 = 2 ∨ (Bh c f b).1 = 10 := by
 have hm : ∀ s, (As s f b).1 = 0 ∨ (As s f b).1 = 2 ∨ (As s f b).1 = 10 := fun s => by
  unfold As
  split
  ·exact .inr (.inl rfl)
  ·split
   ·exact .inl rfl
   ·split
    ·exact .inr (.inr rfl)
    ·exact .inl rfl
 unfold Bh
 split
 ·exact .inr (.inl rfl)
 ·split
  ·exact hm _
  ·split
   ·exact hm _
   ·exact .inl rfl
def Kt (r : Aw T) : Int × T := match r with
 | .ok u => (0, u)
 | .bad e => (e, t0)
def B2a (v d : Int) (k n : Int) (r : List Cl) : Prop := d ≤ 24 ∧ (k = 1 → n < v) ∧ within r d = true
mutual
def J9 : T → Int → Int → Prop
 | .mk k n nm r ks ss, v, d => B2a v d k n r ∧ B4q k 0 ks v d ∧ B4r k ss v d
def B4q (k : Int) : Nat → List T → Int → Int → Prop
 | _, [], _, _ => True
 | i, t :: ts, v, d => J9 t (v + (binds k i).1) (d + (binds k i).2) ∧ B4q k (i + 1) ts v d
def B4p (k : Int) : List T → Int → Int → Prop
 | [], _, _ => True
 | t :: ts, v, d => J9 t v (d + more k) ∧ B4p k ts v d
def B4r (k : Int) : List Br → Int → Int → Prop
 | [], _, _ => True
 | .mk f ks :: bs, v, d => within f d = true ∧ B4p k ks v d ∧ B4r k bs v d
end
theorem Pk (d : Int) : within [] d = true := by
 unfold within
 rw [show Bj [] = 0 from rfl, Nat.zero_div]
 simp
theorem Nl {t : T} {d : Int} {b : Br} : J7 t d b = true ↔ ((b.kids.length : Int) = C5 t.kind ∧ A7 b.B4 = true) ∧ within b.B4 d = true := by
 unfold J7
 rw [Bool.and_eq_true, Bool.and_eq_true, decide_eq_true_iff]
theorem B8t {t : T} {v d : Int} (hv : 0 ≤ v) : Io t v d = true ↔ Io t (-1) 24 = true ∧ (t.kind = 1 → t.n < v) ∧ within t.r d = true ∧ ∀ b, b ∈ t.sys → within b.B4 d = true := by
 rw [R3, R3]
 have hsys : ∀ (h : Gq t = false), C5 t.kind = 0 → t.sys = [] := fun h h0 => by
  unfold Gq at h
  rw [Bool.or_eq_false_iff, Bool.and_eq_false_iff] at h
  rcases h.2 with h2 | h2
  ·exact absurd h0 (of_decide_eq_false h2)
  ·exact List.eq_nil_of_length_eq_zero (by have := of_decide_eq_false h2; omega)
 have hw24 : ∀ l : List Cl, within l 24 = true := fun l => S2 l A2
 constructor
 ·rintro ⟨h1, h2⟩
  refine (fun (h : (if t.kind = 1 then t.r.length = 0 ∧ 0 ≤ t.n ∧ ((-1 : Int) < 0 ∨ t.n < -1) else if t.kind = 2 then t.r.length = 0 ∧ Gx t.name = true else if t.kind = 13 ∨ t.kind = 21 ∨ t.kind = 26 then Ab t.r = true ∧ within t.r 24 = true else if t.kind = 14 then A7 t.r = true ∧ within t.r 24 = true else (∀ x, x ∈ t.sys → J7 t 24 x = true) ∧ t.r.length = 0) ∧ (t.kind = 1 → t.n < v) ∧ within t.r d = true ∧ ∀ b, b ∈ t.sys → within b.B4 d = true) => ⟨⟨h1, h.1⟩, h.2⟩) ?_
  split at h2
  ·rename_i hk
   have hs := hsys h1 (F9 A2)
   rw [hs, List.eq_nil_of_length_eq_zero h2.1]
   exact ⟨by rw [if_pos hk]; exact ⟨rfl, h2.2.1, .inl Jk⟩, fun _ => by omega, Pk d, fun b hb => (by cases hb)⟩
  ·rename_i hk1
   rw [if_neg hk1]
   split at h2
   ·rename_i hk
    have hs := hsys h1 (F9 A2)
    rw [hs, List.eq_nil_of_length_eq_zero h2.1]
    exact ⟨by rw [if_pos hk]; exact ⟨rfl, h2.2⟩, fun h => absurd h hk1, Pk d, fun b hb => (by cases hb)⟩
   ·rename_i hk2
    rw [if_neg hk2]
    split at h2
    ·rename_i hk
     have hs := hsys h1 (F9 A2)
     rw [hs]
     exact ⟨by rw [if_pos hk]; exact ⟨h2.1, hw24 _⟩, fun h => absurd h hk1, h2.2, fun b hb => (by cases hb)⟩
    ·rename_i hk3
     rw [if_neg hk3]
     split at h2
     ·rename_i hk
      have hs := hsys h1 (F9 A2)
      rw [hs]
      exact ⟨by rw [if_pos hk]; exact ⟨h2.1, hw24 _⟩, fun h => absurd h hk1, h2.2, fun b hb => (by cases hb)⟩
     ·rename_i hk4
      rw [if_neg hk4, List.eq_nil_of_length_eq_zero h2.2]
      exact ⟨⟨fun x hx => Nl.mpr ⟨(Nl.mp (h2.1 x hx)).1, hw24 _⟩, rfl⟩, fun h => absurd h hk1, Pk d, fun b hb => (Nl.mp (h2.1 b hb)).2⟩
 ·rintro ⟨⟨h1, h2⟩, h3, h4, h5⟩
  refine ⟨h1, ?_⟩
  split at h2
  ·rename_i hk; rw [if_pos hk]; exact ⟨h2.1, h2.2.1, .inr (h3 hk)⟩
  ·rename_i hk1
   rw [if_neg hk1]
   split at h2
   ·rename_i hk; rw [if_pos hk]; exact h2
   ·rename_i hk2
    rw [if_neg hk2]
    split at h2
    ·rename_i hk; rw [if_pos hk]; exact ⟨h2.1, h4⟩
    ·rename_i hk3
     rw [if_neg hk3]
     split at h2
     ·rename_i hk; rw [if_pos hk]; exact ⟨h2.1, h4⟩
     ·rename_i hk4
      rw [if_neg hk4]
      exact ⟨fun x hx => Nl.mpr ⟨(Nl.mp (h2.1 x hx)).1, h5 x hx⟩, h2.2⟩
theorem A4s {k v d : Int} : ∀ {ts : List T} {i : Nat}, B4q k i ts v d ↔ ∀ j, j < ts.length → J9 (ts.getD j t0) (v + (binds k ((i + j : Nat) : Int)).1) (d + (binds k ((i + j : Nat) : Int)).2)
 | [], i => by simp [B4q]
 | t :: ts, i => by
  simp only [B4q, A4s (ts := ts) (i := i + 1)]
  constructor
  ·rintro ⟨h1, h2⟩ j hj
   cases j with
   | zero => simpa using h1
   | succ j => rw [List.getD_cons_succ, show i + (j + 1) = i + 1 + j by omega]; exact h2 j (by simpa using hj)
  ·intro h
   refine ⟨by simpa using h 0 D7, fun j hj => ?_⟩
   have := h (j + 1) (by simpa using hj)
   rw [List.getD_cons_succ, show i + (j + 1) = i + 1 + j by omega] at this
   exact this
theorem Vj {k v d : Int} : ∀ {ts : List T}, B4p k ts v d ↔ ∀ j, j < ts.length → J9 (ts.getD j t0) v (d + more k)
 | [] => by simp [B4p]
 | t :: ts => by
  simp only [B4p, Vj (ts := ts)]
  constructor
  ·rintro ⟨h1, h2⟩ j hj
   cases j with
   | zero => simpa using h1
   | succ j => rw [List.getD_cons_succ]; exact h2 j (by simpa using hj)
  ·intro h
   exact ⟨by simpa using h 0 D7, fun j hj => by have := h (j + 1) (by simpa using hj); rwa [List.getD_cons_succ] at this⟩
theorem A4t {k v d : Int} : ∀ {bs : List Br}, B4r k bs v d ↔ ∀ b, b ∈ bs → within b.B4 d = true ∧ B4p k b.kids v d
 | [] => by simp [B4r]
 | .mk f ks :: bs => by
  simp only [B4r, A4t (bs := bs), List.forall_mem_cons, Br.B4, Br.kids, and_assoc]
theorem Ll {t : T} {v d : Int} : J9 t v d ↔ B2a v d t.kind t.n t.r ∧ (∀ b, b ∈ t.sys → within b.B4 d = true) ∧ ∀ p, p ∈ parts t → J9 p.1 (v + p.2.1) (d + p.2.2) := by
 have h : J9 t v d ↔ B2a v d t.kind t.n t.r ∧ B4q t.kind 0 t.kids v d ∧ B4r t.kind t.sys v d := by
  obtain ⟨k, n, nm, r, ks, ss⟩ := t
  simp only [J9, T.kind, T.n, T.r, T.kids, T.sys]
 rw [h, A4s, A4t]
 constructor
 ·rintro ⟨h1, h2, h3⟩
  refine ⟨h1, fun b hb => (h3 b hb).1, fun p hp => ?_⟩
  rcases V7 hp with ⟨i, hi, rfl⟩ | ⟨s, k, hs, hk, rfl⟩
  ·have := h2 i hi; rw [Nat.zero_add] at this; exact this
  ·have := Vj.mp (h3 _ (A9 (d := Bd) hs)).2 k hk; simpa using this
 ·rintro ⟨h1, h2, h3⟩
  refine ⟨h1, fun j hj => ?_, fun b hb => ⟨h2 b hb, Vj.mpr fun k hk => ?_⟩⟩
  ·have := h3 _ (List.mem_of_getElem? (Fx t j hj)); rw [Nat.zero_add]; exact this
  ·obtain ⟨s, hs, e⟩ := List.mem_iff_getElem.mp hb
   have e2 : t.sys.getD s Bd = b := by rw [Ca (d := Bd) hs]; exact e
   have := h3 _ (List.mem_of_getElem? (Gp t s k hs (by rw [e2]; exact hk)))
   rw [e2] at this
   simpa using this
theorem A4r : ∀ (t : T) (v d : Int), 0 ≤ v → v + size t ≤ 9000000000000000000 → (H9 t v d true = true ↔ Hl t ∧ J9 t v d) := T.ind fun t ih v d h0 hb => by
 rw [B2q, B8t h0, Ll, W5]
 have hown : Io t (-1) 24 = true ↔ ∀ d' : Int, 24 ≤ d' → Io t (-1) d' = true := by
  constructor
  ·intro h d' hd'
   obtain ⟨k, n, nm, r, ks, ss⟩ := t
   exact (Sh hd').mpr ((Sh A2).mp h)
  ·intro h; exact h 24 A2
 have key : ∀ p, p ∈ parts t → (H9 p.1 (IntKind.i64.wrap (v + if v < 0 then 0 else p.2.1)) (d + p.2.2) true = true ↔ Hl p.1 ∧ J9 p.1 (v + p.2.1) (d + p.2.2)) := fun p hp => by
  have h1 := B8s hp
  have h2 := M1 hp
  rw [if_neg A2, Zp (by unfold Ap; omega)]
  exact ih p hp _ _ A2 A2
 rw [hown]
 unfold B2a
 constructor
 ·rintro ⟨h1, ⟨h2, h3, h4, h5⟩, h6⟩
  exact ⟨⟨h2, fun p hp => ((key p hp).mp (h6 p hp)).1⟩, ⟨by simp at h1; omega, h3, h4⟩, h5, fun p hp => ((key p hp).mp (h6 p hp)).2⟩
 ·rintro ⟨⟨h2, h6⟩, ⟨h1, h3, h4⟩, h5, h7⟩
  exact ⟨by simp; omega, ⟨h2, h3, h4, h5⟩, fun p hp => (key p hp).mpr ⟨h6 p hp, h7 p hp⟩⟩
theorem Ya {t : T} {v d : Int} (hv : 0 ≤ v) (hb : v ≤ 1000000000000) : Bz t v d = 0 ↔ 0 ≤ d ∧ d ≤ 24 ∧ sized t = 0 ∧ Hl t ∧ J9 t v d := by
 rw [A7o]
 constructor
 ·rintro ⟨_, h2, h3, h4, h5⟩
  have := (Pn.mp h4).2
  exact ⟨h2, h3, h4, (A4r t v d hv A2).mp h5⟩
 ·rintro ⟨h2, h3, h4, h5⟩
  have := (Pn.mp h4).2
  exact ⟨hv, h2, h3, h4, (A4r t v d hv A2).mpr h5⟩
section
variable {C : Type} {A : Tr C}
end
section
variable {C : Type} {A : Tr C}
theorem B9t {α : Type} {d x : α} {l : List α} (h : x ∈ l) : ∃ i, i < l.length ∧ l.getD i d = x := by
 obtain ⟨i, hi, e⟩ := List.mem_iff_getElem.mp h
 exact ⟨i, hi, by rw [Ca (d := d) hi]; exact e⟩
theorem Bg {α β : Type} {x : Aw α} {k : α → Aw β} {e : Int} (h : x.bind k = .bad e) : x = .bad e ∨ ∃ a, x = .ok a ∧ k a = .bad e := by
 cases x with
 | ok a => exact .inr ⟨a, rfl, h⟩
 | bad e' => injection h with h; subst h; exact .inl rfl
theorem Xz {k : Int} {c : C} {e : Int} : ∀ {ts : List T} {i : Nat}, Dt A k i ts c = .bad e → ∃ j, j < ts.length ∧ (A.Mz c (binds k ((i + j : Nat) : Int)) = .bad e ∨ ∃ c', A.Mz c (binds k ((i + j : Nat) : Int)) = .ok c' ∧ D8 A (ts.getD j t0) c' = .bad e)
 | [], i, h => by rw [Gm] at h; cases h
 | t :: ts, i, h => by
  rw [Fh] at h
  rcases Bg h with h | ⟨c', h1, h⟩
  ·exact ⟨0, by simp, .inl (by simpa using h)⟩
  ·rcases Bg h with h | ⟨t', h2, h⟩
   ·exact ⟨0, by simp, .inr ⟨c', by simpa using h1, by simpa using h⟩⟩
   ·rcases Bg h with h | ⟨ts', h3, h⟩
    ·obtain ⟨j, hj, h4⟩ := Xz h
     refine ⟨j + 1, by simpa using hj, ?_⟩
     rw [List.getD_cons_succ, show i + (j + 1) = i + 1 + j by omega]; exact h4
    ·cases h
theorem Xx {k : Int} {c : C} {e : Int} : ∀ {ts : List T}, D4 A k ts c = .bad e → ∃ j, j < ts.length ∧ (A.Mz c (0, more k) = .bad e ∨ ∃ c', A.Mz c (0, more k) = .ok c' ∧ D8 A (ts.getD j t0) c' = .bad e)
 | [], h => by rw [Gl] at h; cases h
 | t :: ts, h => by
  rw [Fg] at h
  rcases Bg h with h | ⟨c', h1, h⟩
  ·exact ⟨0, by simp, .inl h⟩
  ·rcases Bg h with h | ⟨t', h2, h⟩
   ·exact ⟨0, by simp, .inr ⟨c', h1, by simpa using h⟩⟩
   ·rcases Bg h with h | ⟨ts', h3, h⟩
    ·obtain ⟨j, hj, h4⟩ := Xx h
     exact ⟨j + 1, by simpa using hj, by rw [List.getD_cons_succ]; exact h4⟩
    ·cases h
theorem S6 {k : Int} {c : C} {e : Int} : ∀ {bs : List Br}, Dd A k bs c = .bad e → ∃ b, b ∈ bs ∧ (A.B4 c b.B4 = .bad e ∨ D4 A k b.kids c = .bad e)
 | [], h => by rw [Fv] at h; cases h
 | b :: bs, h => by
  rw [Em] at h
  rcases Bg h with h | ⟨o, h1, h⟩
  ·exact ⟨b, List.mem_cons_self, .inl h⟩
  ·cases o with
   | none => obtain ⟨x, hx, h⟩ := S6 h; exact ⟨x, List.mem_cons_of_mem _ hx, h⟩
   | some f' =>
    rcases Bg h with h | ⟨ks, h2, h⟩
    ·exact ⟨b, List.mem_cons_self, .inr h⟩
    ·rcases Bg h with h | ⟨us, h3, h⟩
     ·obtain ⟨x, hx, h⟩ := S6 h; exact ⟨x, List.mem_cons_of_mem _ hx, h⟩
     ·cases h
theorem A3c {t : T} {c : C} {e : Int} (h : D8 A t c = .bad e) : A.own c t.kind t.n t.name t.r = .bad e ∨ (∃ b, b ∈ t.sys ∧ A.B4 c b.B4 = .bad e) ∨ ∃ p, p ∈ parts t ∧ (A.Mz c p.2 = .bad e ∨ ∃ c', A.Mz c p.2 = .ok c' ∧ D8 A p.1 c' = .bad e) := by
 rw [Hs] at h
 rcases Bg h with h | ⟨o, h1, h⟩
 ·exact .inl h
 ·cases o with
  | inl u => cases h
  | inr p =>
   rcases Bg h with h | ⟨ks, h2, h⟩
   ·obtain ⟨j, hj, h3⟩ := Xz h
    rw [Nat.zero_add] at h3
    exact .inr (.inr ⟨_, List.mem_of_getElem? (Fx t j hj), h3⟩)
   ·rcases Bg h with h | ⟨ss, h3, h⟩
    ·obtain ⟨b, hb, h4⟩ := S6 h
     rcases h4 with h4 | h4
     ·exact .inr (.inl ⟨b, hb, h4⟩)
     ·obtain ⟨j, hj, h5⟩ := Xx h4
      obtain ⟨s, hs, e2⟩ := B9t (d := Bd) hb
      refine .inr (.inr ⟨_, List.mem_of_getElem? (Gp t s j hs (by rw [e2]; exact hj)), ?_⟩)
      rw [e2]; exact h5
    ·cases h
end
theorem Yz {l : List Cl} {i : Nat} : (Bj l).testBit i = true ↔ i < 24 ∧ ∃ c, c ∈ l ∧ (c.pos ||| c.neg).testBit i = true := by
 unfold Bj
 rw [Gs, Bool.and_eq_true, decide_eq_true_eq, A5o (fun c : Cl => c.pos ||| c.neg)]
 simp
theorem Xf {s : Nat} {f b : Int} (h : (As s f b).1 = 0) (i : Nat) (hi : (As s f b).2.testBit i = true) : ∃ j, j < 24 ∧ s.testBit j = true ∧ (((j : Int) < f ∧ i = j) ∨ (f ≤ (j : Int) ∨ 24 ≤ j) ∧ (i : Int) = j + b) := by
 obtain ⟨h0, h1, h2⟩ := Rb h i
 rw [h2, Bool.or_eq_true, Bool.and_eq_true, Bool.and_eq_true, decide_eq_true_eq, decide_eq_true_eq, Gs, Gs, Bool.and_eq_true, Bool.and_eq_true, decide_eq_true_eq, decide_eq_true_eq] at hi
 rcases hi with ⟨h3, h4, h5⟩ | ⟨h3, h4, h5⟩
 ·exact ⟨i, h4, h5, .inl ⟨by omega, rfl⟩⟩
 ·exact ⟨i - b.toNat, h4, h5, .inr ⟨by omega, by omega⟩⟩
theorem B5s {t : T} (h : Hl t) {b : Br} (hb : b ∈ t.sys) : A7 b.B4 = true := (Sn.mp (Ol.mp h).2.2.2.2 b hb).2.1
theorem Yv {t : T} (h : Hl t) {p : Part} (hp : p ∈ parts t) : Hl p.1 := (W5.mp h).2 p hp
def vE (n : Int) : T := .mk 1 n ⟨#[]⟩ [] [] []
theorem B6z {t : T} {f b : Int} (hb : Ap b) (h : Tx t) : Tx (Bn t f b).2 := by
 refine guard_okT' (fun ha u hu => ?_)
 simp only [List.all_cons, List.all_nil, Bool.and_true, Bool.and_eq_true, decide_eq_true_eq] at ha
 exact A4z ⟨ha.2.1, B1r hb ha.2.1 ha.2.2⟩ h hu
theorem C1q {t : T} {f b : Int} (h : Tx t) : Tx (Bp t f b).2 := guard_okT' (fun _ u hu => A4z A2 h hu)
def C3k (n : Int) (u : T) (c : Int × Int) (k m : Int) (r : List Cl) : Aw (T ⊕ (Int × List Cl)) :=
 if k = 1 then (if m = n + c.1 then (if (A1z u c.1 c.2).1 = 0 then .ok (.inl (A1z u c.1 c.2).2) else .bad (A1z u c.1 c.2).1) else .ok (.inr (if n + c.1 < m then m - 1 else m, r))) else .ok (.inr (m, r))
def C8a (n : Int) (u : T) : Tr (Int × Int) where
 own c k m _ r := C3k n u c k m r
 B4 _ f := .ok (some f)
 Mz c b := .ok (c.1 + b.1, c.2 + b.2)
theorem A5t {t : T} (h : Hl t) (hk : t.kind = 1) : t = .mk 1 t.n ⟨#[]⟩ [] [] [] ∧ 0 ≤ t.n := by
 obtain ⟨h1, h2, h3, h4, h5⟩ := Ol.mp h
 obtain ⟨_, a2, a3, _⟩ := h1
 have hn : t.name = ⟨#[]⟩ := Wj.mp (beq_iff_eq.mpr (a2 (by rw [hk]; decide)))
 have hr := (a3 hk).1
 have hks : t.kids = [] := by
  rw [hk, show Ce 1 = 0 by decide] at h2
  exact List.eq_nil_of_length_eq_zero A2
 have hss := h3 (by rw [hk]; decide)
 refine ⟨?_, (a3 hk).2⟩
 obtain ⟨k, n, nm, r, ks, ss⟩ := t
 simp only [T.kind, T.n, T.name, T.r, T.kids, T.sys] at *
 subst hk hn hr hks hss
 rfl
mutual
def A9k : T → Int → Int
 | .mk k n nm r ks ss, m => if k = 1 ∧ n = m then 1 else C1t k 0 ks m + C1u ss m
def C1t (k : Int) : Nat → List T → Int → Int
 | _, [], _ => 0
 | i, t :: ts, m => A9k t (m + (binds k i).1) + C1t k (i + 1) ts m
def C1s : List T → Int → Int
 | [], _ => 0
 | t :: ts, m => A9k t m + C1s ts m
def C1u : List Br → Int → Int
 | [], _ => 0
 | .mk f ks :: bs, m => C1s ks m + C1u bs m
end
def Ld : List T → Nat
 | [] => 0
 | t :: ts => size t + Ld ts
def T8 : List Br → Nat
 | [] => 0
 | b :: bs => Ld b.kids + T8 bs
theorem foldl_add {α : Type} (f : α → Nat) : ∀ (l : List α) (a : Nat), l.foldl (fun a p => a + f p) a = a + l.foldl (fun a p => a + f p) 0
 | [], a => rfl
 | x :: l, a => by rw [List.foldl_cons, List.foldl_cons, foldl_add f l (a + f x), foldl_add f l (0 + f x)]; omega
theorem Ur (t : T) : size t = 1 + Ld t.kids + T8 t.sys := by
 have hk : ∀ (k : Int) (ts : List T) (i : Nat), (Dg k i ts).foldl (fun a p => a + size p.1) 0 = Ld ts := by
  intro k ts
  induction ts with
  | nil => intro i; rfl
  | cons t ts ih => intro i; rw [Dg, List.foldl_cons, foldl_add, ih, Ld]; simp only; omega
 have hm : ∀ (ts : List T) (b : Int × Int), (ts.map fun k => ((k, b.1, b.2) : Part)).foldl (fun a p => a + size p.1) 0 = Ld ts := by
  intro ts b
  induction ts with
  | nil => rfl
  | cons t ts ih => rw [List.map_cons, List.foldl_cons, foldl_add, ih, Ld]; simp only; omega
 have hs : ∀ (k : Int) (bs : List Br), (Co k bs).foldl (fun a p => a + size p.1) 0 = T8 bs := by
  intro k bs
  induction bs with
  | nil => rfl
  | cons b bs ih => rw [Co, List.foldl_append, foldl_add, ih, hm b.kids (0, more k), T8]
 rw [size_eq, parts, List.foldl_append, foldl_add, hs, foldl_add, hk]
abbrev lid (n : Int) : Int := if 1099511627776 < n then 1099511627776 else n
def C3j (t : T) (n : Int) (u : T) : Int × T :=
 if B0 t ≠ 0 then (B0 t, t0) else if B0 u ≠ 0 then (B0 u, t0) else if n < 0 then (2, t0) else
 if 20000 < (size t : Int) + A9k t (lid n) * ((size u : Int) - 1) then (221, t0) else
 match D8 (C8a (lid n) u) t (0, 0) with
 | .bad e => (e, t0)
 | .ok x => if 200 < depth x then (62, t0) else (0, x)
section
variable {t u : T} {n : Int}
end
theorem A0z {s : Nat} {f b : Int} (h : (As s f b).1 = 0) (i : Nat) : (As s f b).2.testBit i = true ↔ ∃ j, j < 24 ∧ s.testBit j = true ∧ (((j : Int) < f ∧ i = j) ∨ (f ≤ (j : Int) ∧ (i : Int) = j + b)) := by
 obtain ⟨h0, h1, h2⟩ := Rb h i
 constructor
 ·intro hi
  obtain ⟨j, h3, h4, h5⟩ := Xf h i hi
  exact ⟨j, h3, h4, by omega⟩
 ·rintro ⟨j, h3, h4, h5⟩
  rw [h2, Bool.or_eq_true, Bool.and_eq_true, Bool.and_eq_true, decide_eq_true_eq, decide_eq_true_eq, Gs, Gs, Bool.and_eq_true, Bool.and_eq_true, decide_eq_true_eq, decide_eq_true_eq]
  rcases h5 with ⟨h5, rfl⟩ | ⟨h5, h6⟩
  ·exact .inl ⟨by omega, h3, h4⟩
  ·refine .inr ⟨by omega, ?_⟩
   rw [show i - b.toNat = j by omega]
   exact ⟨h3, h4⟩
theorem Yl {s : Nat} {f b : Int} (hs : s < 16777216) (h0 : 0 ≤ f) (hb : 0 ≤ b) (h : b = 0 ∨ 24 ≤ f) : As s f b = (0, s) := by
 have hs24 : s &&& 16777215 = s := by rw [Zc]; exact Nat.mod_eq_of_lt hs
 have h1 : (As s f b).1 = 0 := by
  unfold As
  rw [if_neg A2]
  split
  ·rfl
  ·rename_i h2
   rw [if_neg]
   rintro (h3 | h3)
   ·rcases h with h | h
    ·omega
    ·refine h2 ?_
     refine Nat.eq_of_testBit_eq fun i => ?_
     rw [I1, Lm, Nat.zero_testBit, Gs, show min f.toNat 24 = 24 by omega]
     by_cases hi : i < 24 <;> simp [hi]
   ·rcases h with h | h
    ·subst h
     have := Zb (q := s &&& 16777215) (m := 2 ^ min f.toNat 24 - 1) (K8 s)
     simp at h3
     omega
    ·refine h2 ?_
     refine Nat.eq_of_testBit_eq fun i => ?_
     rw [I1, Lm, Nat.zero_testBit, Gs, show min f.toNat 24 = 24 by omega]
     by_cases hi : i < 24 <;> simp [hi]
 refine Prod.ext h1 ?_
 refine Nat.eq_of_testBit_eq fun i => ?_
 rw [Bool.eq_iff_iff, A0z h1]
 have hlt : ∀ j, s.testBit j = true → j < 24 := fun j hj => by
  refine Nat.lt_of_not_le fun hge => ?_
  rw [Nat.testBit_lt_two_pow (Nat.lt_of_lt_of_le hs (Nat.pow_le_pow_right (n := 2) (i := 24) A2 hge))] at hj
  cases hj
 constructor
 ·rintro ⟨j, h2, h3, h4⟩
  rw [show i = j by omega]; exact h3
 ·intro h2
  exact ⟨i, hlt i h2, h2, by have := hlt i h2; omega⟩
theorem A1r {l : List Cl} (h : Ab l = true) : (∀ c, c ∈ l → B3 c = true) ∧ apart l = true := by
 unfold Ab at h
 simp only [Bool.and_eq_true, List.all_eq_true] at h
 exact ⟨h.1.1.1, h.1.2⟩
theorem Iz {c : Cl} : B3 c = true ↔ c.pos < 16777216 ∧ c.neg < 16777216 := by unfold B3; rw [Bool.and_eq_true, decide_eq_true_eq, decide_eq_true_eq]
section
variable {CA CB CC CD : Type} {A : Tr CA} {B : Tr CB} {C : Tr CC} {D : Tr CD} (R : CA → CB → CC → CD → Prop)
variable {R}
end
theorem Pm : ∀ {l m : List Int}, (l.Pairwise fun a b => a < b) → (m.Pairwise fun a b => a < b) → (∀ x, x ∈ l ↔ x ∈ m) → l = m
 | [], [], _, _, _ => rfl
 | [], b :: m, _, _, h => by have := (h b).mpr List.mem_cons_self; cases this
 | a :: l, [], _, _, h => by have := (h a).mp List.mem_cons_self; cases this
 | a :: l, b :: m, hl, hm, h => by
  obtain ⟨l1, l2⟩ := List.pairwise_cons.mp hl
  obtain ⟨m1, m2⟩ := List.pairwise_cons.mp hm
  have hab : a = b := by
   rcases List.mem_cons.mp ((h a).mp List.mem_cons_self) with h1 | h1
   ·exact h1
   ·rcases List.mem_cons.mp ((h b).mpr List.mem_cons_self) with h2 | h2
    ·exact h2.symm
    ·have := l1 b h2; have := m1 a h1; omega
  subst hab
  have : l = m := Pm l2 m2 fun x => by
   constructor
   ·intro hx
    rcases List.mem_cons.mp ((h x).mp (List.mem_cons_of_mem _ hx)) with h1 | h1
    ·subst h1; have := l1 x hx; omega
    ·exact h1
   ·intro hx
    rcases List.mem_cons.mp ((h x).mpr (List.mem_cons_of_mem _ hx)) with h1 | h1
    ·subst h1; have := m1 x hx; omega
    ·exact h1
  rw [this]
theorem Ma (s : Nat) : (Ag s).Pairwise fun a b => a < b := by
 unfold Ag C1
 rw [List.pairwise_map]
 refine List.Pairwise.filter _ ?_
 exact List.pairwise_lt_range.imp fun h => by omega
theorem B4z (s : Nat) : Ag (s &&& 16777215) = Ag s := by
 refine Pm (Ma _) (Ma _) fun x => ?_
 rw [Gg, Gg, Gs]
 constructor
 ·rintro ⟨h1, h2, h3⟩
  rw [Bool.and_eq_true] at h3
  exact ⟨h1, h2, h3.2⟩
 ·rintro ⟨h1, h2, h3⟩
  exact ⟨h1, h2, by rw [h3, decide_eq_true A2]; rfl⟩
theorem B4t {r : Nat} (h0 : ¬ r = 0) (h : r < 4294967296) : ∃ m, r = 2 ^ Lib.ctz 32 r * (2 * m + 1) ∧ Lib.ctz 32 r < 32 := by
 obtain ⟨m, h1, h2⟩ := Lib.ctzFrom_spec 32 r A2 h
 have e : Lib.ctz 32 r = Lib.ctzFrom 32 r := by unfold Lib.ctz; rw [if_neg h0]
 rw [e]
 exact ⟨m, h1, h2⟩
theorem C4e {r k m i : Nat} (h : r = 2 ^ k * (2 * m + 1)) : (r &&& (r - 1)).testBit i = (r.testBit i && decide (i ≠ k)) ∧ r.testBit k = true ∧ (i < k → r.testBit i = false) := by
 have hp : 0 < 2 ^ k := Nat.pow_pos Jk
 have e1 : r = 2 ^ (k + 1) * m + 2 ^ k := by rw [h, Nat.pow_succ, Nat.mul_add, Nat.mul_assoc]; simp
 have e2 : r - 1 = 2 ^ (k + 1) * m + (2 ^ k - 1) := by omega
 have hb1 : 2 ^ k < 2 ^ (k + 1) := by rw [Nat.pow_succ]; omega
 have hb2 : 2 ^ k - 1 < 2 ^ (k + 1) := by omega
 have t1 : ∀ j, r.testBit j = if j < k + 1 then (2 ^ k).testBit j else m.testBit (j - (k + 1)) := fun j => by rw [e1]; exact Nat.testBit_two_pow_mul_add m hb1 j
 have t2 : ∀ j, (r - 1).testBit j = if j < k + 1 then (2 ^ k - 1).testBit j else m.testBit (j - (k + 1)) := fun j => by rw [e2]; exact Nat.testBit_two_pow_mul_add m hb2 j
 refine ⟨?_, by rw [t1, if_pos A2, Nat.testBit_two_pow_self], fun hi => by rw [t1, if_pos A2, Nat.testBit_two_pow_of_ne A2]⟩
 rw [Nat.testBit_and, t1, t2]
 by_cases hi : i < k + 1
 ·rw [if_pos hi, if_pos hi, Nat.testBit_two_pow, Nat.testBit_two_pow_sub_one]
  by_cases hk : k = i
  ·subst hk; simp
  ·simp [hk]
 ·rw [if_neg hi, if_neg hi]
  have : i ≠ k := by omega
  simp [this]
theorem Ym {r : Nat} (h0 : ¬ r = 0) (h : r < 16777216) : Lib.ctz 32 r < 24 ∧ Ag r = (Lib.ctz 32 r : Int) :: Ag (r &&& (r - 1)) := by
 obtain ⟨m, h1, h2⟩ := B4t h0 A2
 have hb := fun i => C4e (i := i) h1
 have hk : Lib.ctz 32 r < 24 := Decidable.byContradiction fun hn => by
  have h3 := Nat.ge_two_pow_of_testBit (hb 0).2.1
  have h4 : 2 ^ 24 ≤ 2 ^ Lib.ctz 32 r := Nat.pow_le_pow_right Jk A2
  omega
 refine ⟨hk, Pm (Ma _) (List.pairwise_cons.mpr ⟨fun x hx => ?_, Ma _⟩) fun x => ?_⟩
 ·obtain ⟨x0, x1, x2⟩ := Gg.mp hx
  rw [(hb x.toNat).1, Bool.and_eq_true, decide_eq_true_eq] at x2
  have : ¬ x.toNat < Lib.ctz 32 r := fun hlt => by have := (hb x.toNat).2.2 hlt; rw [x2.1] at this; cases this
  omega
 ·rw [List.mem_cons, Gg, Gg, (hb x.toNat).1, Bool.and_eq_true, decide_eq_true_eq]
  constructor
  ·rintro ⟨x0, x1, x2⟩
   by_cases hx : x = (Lib.ctz 32 r : Int)
   ·exact .inl hx
   ·exact .inr ⟨x0, x1, x2, by omega⟩
  ·rintro (rfl | ⟨x0, x1, x2, _⟩)
   ·exact ⟨by omega, by omega, by rw [Int.toNat_natCast]; exact (hb 0).2.1⟩
   ·exact ⟨x0, x1, x2⟩
theorem C9b {r : Nat} (h0 : ¬ r = 0) : r &&& (r - 1) < r := Nat.lt_of_le_of_lt Nat.and_le_right A2
def C7z : ByteArray := ⟨#[0, 1, 1, 2, 1, 2, 2, 3, 1, 2, 2, 3, 2, 3, 3, 4, 1, 2, 2, 3, 2, 3, 3, 4, 2, 3, 3, 4, 3, 4, 4, 5, 1, 2, 2, 3, 2, 3, 3, 4, 2, 3, 3, 4, 3, 4, 4, 5, 2, 3, 3, 4, 3, 4, 4, 5, 3, 4, 4, 5, 4, 5, 5, 6, 1, 2, 2, 3, 2, 3, 3, 4, 2, 3, 3, 4, 3, 4, 4, 5, 2, 3, 3, 4, 3, 4, 4, 5, 3, 4, 4, 5, 4, 5, 5, 6, 2, 3, 3, 4, 3, 4, 4, 5, 3, 4, 4, 5, 4, 5, 5, 6, 3, 4, 4, 5, 4, 5, 5, 6, 4, 5, 5, 6, 5, 6, 6, 7, 1, 2, 2, 3, 2, 3, 3, 4, 2, 3, 3, 4, 3, 4, 4, 5, 2, 3, 3, 4, 3, 4, 4, 5, 3, 4, 4, 5, 4, 5, 5, 6, 2, 3, 3, 4, 3, 4, 4, 5, 3, 4, 4, 5, 4, 5, 5, 6, 3, 4, 4, 5, 4, 5, 5, 6, 4, 5, 5, 6, 5, 6, 6, 7, 2, 3, 3, 4, 3, 4, 4, 5, 3, 4, 4, 5, 4, 5, 5, 6, 3, 4, 4, 5, 4, 5, 5, 6, 4, 5, 5, 6, 5, 6, 6, 7, 3, 4, 4, 5, 4, 5, 5, 6, 4, 5, 5, 6, 5, 6, 6, 7, 4, 5, 5, 6, 5, 6, 6, 7, 5, 6, 6, 7, 6, 7, 7, 8]⟩
def pop8 (j : Nat) : Nat := j % 2 + j / 2 % 2 + j / 4 % 2 + j / 8 % 2 + j / 16 % 2 + j / 32 % 2 + j / 64 % 2 + j / 128 % 2
theorem V1 : ∀ j, j < 256 → C7z[j]? = some (UInt8.ofNat (pop8 j)) ∧ pop8 j ≤ 8 := by decide +kernel
def R0 (s : Nat) : Nat := pop8 (s / 16777216) + pop8 (s / 65536 &&& 255) + pop8 (s / 256 &&& 255) + pop8 (s &&& 255)
theorem B3u : ∀ k, k < 24 → R0 (2 ^ k) = 1 := by decide +kernel
theorem A7s : R0 0 = 0 := by decide
theorem A2d (s : Nat) : s &&& 255 < 256 := Nat.lt_of_le_of_lt Nat.and_le_right Jk
section
variable {tn : Bool} {pn : Nat} {P : Program} [Tab P] {f : FuncId} {R : Ending → World → Prop} {B : C2} {n : Fz} {K : List Item} {ops : Array Oper} {i : Nat} {l fin : List Nat} {σ : Nat → Value} {Γ : List Fact} {Ms Ms2 : List B2}
variable {dst : Option Tmp} {op : Op} {ty : TypeId} {pos : String} {after : Array Edge} {v : Value} {x y z : Operand}
theorem A4a {t : TypeId} {s : ByteArray} {j : Nat} (hu : Tab.und P t = some .string) (hx : ev σ x = .string s) (hs : s = C7z) (hy : ev σ y = .int .u32 (j : Int)) (hj : j < 256) : Bx P σ (.index t x y) ty (.int .u8 (pop8 j : Nat)) := fun w => by
 subst hs
 have h := (V1 j hj)
 have e : ((UInt8.ofNat (pop8 j)).toNat : Int) = (pop8 j : Nat) := by
  rw [UInt8.toNat_ofNat']
  have := h.2
  omega
 simp [C3, execOp, hx, hy, Instr.index, asIntOf, Cs hu, h.1]
 have := h.2
 omega
theorem B8p {t t' : TypeId} {a b : Nat} (hx : ev σ x = .int .u8 (a : Nat)) (hy : ev σ y = .int .u8 (b : Nat)) (h : a + b < 256) : Bx P σ (.binOp .add t x y t') ty (.int .u8 ((a + b : Nat) : Int)) :=
 Cr hx hy (fun w => Bk w) (fun w => by
  have e : IntKind.u8.wrap ((a : Int) + (b : Int)) = ((a + b : Nat) : Int) := by simp [IntKind.wrap, IntKind.signed, IntKind.bits]; omega
  show Result.ok (Value.int .u8 (IntKind.u8.wrap ((a : Int) + (b : Int)))) w = _
  rw [e])
theorem B4a {s d : TypeId} {ds : TypeDesc} {a : Nat} (hs : Tab.und P s = some ds) (hd : Tab.und P d = some (.int .i64)) (hx : ev σ x = .int .u8 (a : Nat)) (ha : a < 256) : Bx P σ (.convert s d x) ty (.int .i64 (a : Int)) := by
 have h := Hd hs hd hx (ty := ty)
 rwa [show IntKind.i64.wrap (a : Int) = (a : Int) by rw [IntKind.wrap_i64]; omega] at h
theorem U5 {t : TypeId} {s : ByteArray} {j : Nat} (k_ : NV tn pn P f R B n K ops fin l (Ai σ dst (.int .u8 (pop8 j : Nat))) Γ Ms) (hx : ev σ x = .string s := by exact A4) (hy : ev σ y = .int .u32 (j : Int) := by exact A4) (hs : s = C7z := by rfl) (hu : Tab.und P t = some .string := by rfl) (hj : j < 256 := by first | omega | exact A2d _) (hd : A8 n dst = true := by rfl) : I4 tn pn P f R B n K ops fin i l dst (.index t x y) ty σ Γ Ms := Cy (A4a hu hx hs hy hj) hd k_
theorem Zt {t t' : TypeId} {a b : Nat} (k_ : NV tn pn P f R B n K ops fin l (Ai σ dst (.int .u8 ((a + b : Nat) : Int))) Γ Ms) (hx : ev σ x = .int .u8 (a : Nat) := by exact A4) (hy : ev σ y = .int .u8 (b : Nat) := by exact A4) (h : a + b < 256 := by omega) (hd : A8 n dst = true := by rfl) : I4 tn pn P f R B n K ops fin i l dst (.binOp .add t x y t') ty σ Γ Ms := Cy (B8p hx hy h) hd k_
theorem B7e {s d : TypeId} {ds : TypeDesc} {a : Nat} (k_ : NV tn pn P f R B n K ops fin l (Ai σ dst (.int .i64 (a : Int))) Γ Ms) (hx : ev σ x = .int .u8 (a : Nat) := by exact A4) (hs : Tab.und P s = some ds := by rfl) (hd' : Tab.und P d = some (.int .i64) := by rfl) (ha : a < 256 := by omega) (hd : A8 n dst = true := by rfl) : I4 tn pn P f R B n K ops fin i l dst (.convert s d x) ty σ Γ Ms := Cy (B4a hs hd' hx ha) hd k_
end
theorem Vt {l : List Cl} (h : (Bc l).1 ≠ 0) : (Bc l).2 = [] := by
 unfold Bc at h ⊢
 split
 ·rfl
 ·rename_i h1
  rw [if_neg h1] at h
  split
  ·rfl
  ·rename_i h2
   rw [if_neg h2] at h
   exact absurd rfl h
theorem Xj {l : List Cl} {f b : Int} (hl : Ab l = true) (h0 : 0 ≤ f) (hb : 0 ≤ b) (h : b = 0 ∨ 24 ≤ f) : Ae l f b = (0, l) := by
 obtain ⟨hr, _⟩ := A1r hl
 have key : ∀ c, c ∈ l → Bh c f b = (0, c) := fun c hc => by
  obtain ⟨h2, h3⟩ := Iz.mp (hr c hc)
  unfold Bh
  rw [if_neg (by rw [hr c hc]; simp), Yl h2 h0 hb h, Yl h3 h0 hb h]
  simp
 have hf : Ej (fun c => Bh c f b) l = (0, l) := by
  unfold Ej
  rw [List.find?_eq_none.mpr (fun c hc => by show ¬ decide ((Bh c f b).1 ≠ 0) = true; rw [key c hc]; simp)]
  simp only
  congr 1
  conv => rhs; rw [← List.map_id l]
  exact List.map_congr_left (fun c hc => by rw [key c hc]; rfl)
 unfold Ae
 rw [if_neg (by rw [hl]; simp), hf, if_neg D7]
 have := Rg l
 rw [hl, Bool.and_eq_true, decide_eq_true_eq, decide_eq_true_eq] at this
 exact Prod.ext this.1 this.2
theorem A0f {l : List Cl} {f b : Int} (hl : Ab l = true) (h0 : 0 ≤ f) (hb : 0 ≤ b) : Cc b l f = if (Ae l f b).1 = 0 then .ok (Ae l f b).2 else .bad (Ae l f b).1 := by
 unfold Cc
 by_cases h : b = 0 ∨ 24 ≤ f
 ·rw [if_pos h, Xj hl h0 hb h]; rfl
 ·rw [if_neg h]
theorem C1d {l : List Cl} {f b : Int} : 0 ≤ (Ae l f b).1 := by
 have hl : ∀ m : List Cl, 0 ≤ (Bc m).1 := fun m => by rcases Rh m with h | h | h <;> omega
 unfold Ae
 split
 ·exact (show (0 : Int) ≤ 2 by omega)
 ·split
  ·unfold Ej
   split
   ·rename_i c _
    rcases A9l c f b with h | h | h <;> (simp only; omega)
   ·exact Int.le_refl 0
  ·exact hl _
theorem Ta {l : List Cl} {f b e : Int} (h : Cc b l f = .bad e) : 0 < e := by
 unfold Cc at h
 split at h
 ·cases h
 ·split at h
  ·cases h
  ·rename_i h2
   injection h with h
   have := C1d (l := l) (f := f) (b := b)
   omega
theorem Rf {vb db : Int} : ∀ (t : T) {c : Int × Int} {e : Int}, D8 (Ci vb db) t c = .bad e → 0 < e := T.ind fun t ih c e h => by
 rcases A3c h with h1 | ⟨b, _, h1⟩ | ⟨p, hp, h1 | ⟨c', _, h2⟩⟩
 ·rw [A4y] at h1
  rcases Bg h1 with h2 | ⟨g, _, h2⟩
  ·exact Ta h2
  ·split at h2
   ·injection h2 with h2; omega
   ·cases h2
 ·rw [Xh] at h1
  rcases Bg h1 with h2 | ⟨g, _, h2⟩
  ·exact Ta h2
  ·cases h2
 ·cases h1
 ·exact ih p hp h2
abbrev EL : Type := Int × List Cl
def Fl (i : Int) : Nat := if 0 ≤ i ∧ i < 24 then 2 ^ i.toNat else 0
def A3a (s : Nat) (i : Int) : Nat := if 0 ≤ i ∧ i < 24 then (s &&& 16777215) ||| 2 ^ i.toNat else s &&& 16777215
def A2z (s : Nat) (i : Int) : Nat := if 0 ≤ i ∧ i < 24 then Bf (s &&& 16777215) (2 ^ i.toNat) else s &&& 16777215
theorem Lw (i : Int) : A3a 0 i = Fl i := by unfold A3a Fl; split <;> simp
theorem Kr (i : Int) : Fl i < 16777216 := by
 unfold Fl
 split
 ·exact Nat.pow_lt_pow_right (n := 24) (a := 2) Jk A2
 ·decide
def Nz (i : Int) : Bool := decide (0 ≤ i) && decide (i < 24)
theorem C3i {i : Int} (h : Nz i = true) : R0 (Fl i &&& 16777215) = 1 := by
 have h1 : 0 ≤ i ∧ i < 24 := by unfold Nz at h; simpa using h
 have h2 := Kr i
 rw [Zc, Nat.mod_eq_of_lt A2]
 unfold Fl
 rw [if_pos h1]
 exact B3u _ A2
theorem B8c {i : Int} (h : Nz i = false) : R0 (Fl i &&& 16777215) = 0 := by
 have h1 : ¬ (0 ≤ i ∧ i < 24) := by unfold Nz at h; simp at h; omega
 unfold Fl
 rw [if_neg h1]
 exact A7s
theorem A3u (i : Int) : decide (((R0 (Fl i &&& 16777215) : Nat) : Int) = 0) = !Nz i := by
 cases h : Nz i
 ·rw [B8c h]; rfl
 ·rw [C3i h]; rfl
def Gj (x : EL) (k : List Cl → EL) : EL := if x.1 ≠ 0 then (x.1, []) else k x.2
theorem Bq {x : EL} {k : List Cl → EL} (h : x.1 ≠ 0) : Gj x k = (x.1, []) := if_pos h
theorem Cg {x : EL} {k : List Cl → EL} (h : x.1 = 0) : Gj x k = k x.2 := if_neg (by simp [h])
def Cw (g : List Cl → Cl → EL) : List Cl → List Cl → EL
 | h, [] => (0, h)
 | h, c :: cs => Gj (g h c) fun h' => Cw g h' cs
theorem W0 {g : List Cl → Cl → EL} : ∀ {l m h h' : List Cl}, Cw g h l = (0, h') → Cw g h (l ++ m) = Cw g h' m
 | [], m, h, h', e => by
  rw [Cw, Prod.mk.injEq] at e
  rw [List.nil_append, e.2]
 | d :: l, m, h, h', e => by
  rw [Cw] at e
  by_cases h0 : (g h d).1 = 0
  ·rw [Cg h0] at e
   rw [List.cons_append, Cw, Cg h0]
   exact W0 e
  ·rw [Bq h0, Prod.mk.injEq] at e
   exact absurd e.1 h0
theorem W4 {g : List Cl → Cl → EL} {l h h' : List Cl} {i : Nat} (hi : i < l.length) (e : Cw g h (l.take i) = (0, h')) (h0 : (g h' (l.getD i B8)).1 = 0) : Cw g h (l.take (i + 1)) = (0, (g h' (l.getD i B8)).2) := by
 rw [Ah (d := B8) hi, W0 e, Cw, Cg h0, Cw]
theorem Sl {g : List Cl → Cl → EL} {l h h' : List Cl} {i : Nat} (hi : i < l.length) (e : Cw g h (l.take i) = (0, h')) (h0 : (g h' (l.getD i B8)).1 ≠ 0) : Cw g h l = ((g h' (l.getD i B8)).1, []) := by
 have e2 : l = l.take i ++ l.getD i B8 :: l.drop (i + 1) := by rw [Ca (d := B8) hi, List.getElem_cons_drop, List.take_append_drop]
 rw [e2, W0 e, ← e2, Cw, Bq h0]
theorem Sm {g : List Cl → Cl → EL} {l h h' : List Cl} {i : Nat} (hi : i = l.length) (e : Cw g h (l.take i) = (0, h')) : Cw g h l = (0, h') := by
 rw [hi, List.take_length] at e
 exact e
def J2 (f g : List Cl) : EL := Bc (f ++ g)
def Ki (f g : List Cl) : List Cl := f.flatMap fun a => g.map fun b => Dq a b
def Kj (f g : List Cl) : EL := Bc (Ki f g)
def B4e (c : Cl) : List Cl := ((Ag c.pos).map fun i => (⟨0, Fl i⟩ : Cl)) ++ ((Ag c.neg).map fun i => (⟨Fl i, 0⟩ : Cl))
def A4d (c : Cl) : EL := Bc (B4e c)
def E5 (h : List Cl) (c : Cl) : EL := Gj (A4d c) fun o => Kj h o
def A0v (f : List Cl) : EL := Cw E5 [B8] f
def Mw (f : List Cl) : EL := if Ab f then A0v f else (2, [])
def A3f (c : Cl) (i : Int) : Cl := ⟨A2z c.pos i, A2z c.neg i⟩
def C7w (i : Int) (r : List Cl) (c : Cl) : EL := if H7 c.pos i then Kj [A3f c i] r else (0, [A3f c i])
def C7x (i : Int) (r : List Cl) (c : Cl) (g : List Cl) : EL := if H7 c.neg i then Gj (A0v r) fun s => Kj g s else (0, g)
def C3h (i : Int) (r h : List Cl) (c : Cl) : EL := Gj (C7w i r c) fun g => Gj (C7x i r c g) fun g => J2 h g
def C4u (f : List Cl) (i : Int) (r : List Cl) : EL := if (Ab f && Ab r) = false then (2, []) else if Nz i = false then (2, []) else Cw (C3h i r) [] f
def E7 (l : List Cl) : List Cl := l.filter fun c => !Je c
def ofF (f : List Cl) : EL := if Ab f then Bc (E7 f) else (2, [])
def Hz (r : List Cl) : EL := Gj (Mw r) ofF
def Mq (f g : List Cl) : EL := Bc (f.flatMap fun a => E7 (g.map fun b => Dq a b))
def C1m (i : Int) (r : List Cl) (c : Cl) : EL := if H7 c.pos i then Gj (ofF r) fun x => Mq [A3f c i] x else if H7 c.neg i then Gj (Hz r) fun x => Mq [A3f c i] x else (0, [A3f c i])
def C1l (i : Int) (r h : List Cl) (c : Cl) : EL := Gj (C1m i r c) fun g => J2 h g
def C4v (f : List Cl) (i : Int) (r : List Cl) : EL := if (A7 f && Nz i && Ab r) = false then (2, []) else Cw (C1l i r) [] f
def Ny (f g : List Cl) : EL := if (A7 f && A7 g) = false then (2, []) else J2 f g
abbrev Q5 (x : EL) : Prop := Al x.2
theorem B3n {l m : List Cl} (h : Al l) (hs : ∀ c, c ∈ m → c ∈ l) (hl : m.length ≤ l.length) : Al m := ⟨fun c hc => h.1 c (hs c hc), by have := h.2; omega⟩
theorem Li {l : List Cl} (h : ∀ c, c ∈ l → u32 c) : Q5 (Bc l) := Yq h
theorem Vb {x : EL} {k : List Cl → EL} (h : x.1 = 0 → Q5 (k x.2)) : Q5 (Gj x k) := by
 by_cases h0 : x.1 = 0
 ·rw [Cg h0]; exact h h0
 ·rw [Bq h0]; exact Cz
theorem A4k {g : List Cl → Cl → EL} : ∀ {l h : List Cl}, (∀ h c, c ∈ l → Al h → Q5 (g h c)) → Al h → Q5 (Cw g h l)
 | [], h, _, h2 => h2
 | c :: l, h, h1, h2 => by
  rw [Cw]
  exact Vb fun _ => A4k (fun h' d hd => h1 h' d (List.mem_cons_of_mem _ hd)) (h1 h c List.mem_cons_self h2)
theorem Jx {a b : Cl} (h : u32 a) (h2 : u32 b) : u32 (Dq a b) := ⟨Nat.or_lt_two_pow (n := 32) h.1 h2.1, Nat.or_lt_two_pow (n := 32) h.2 h2.2⟩
theorem Ug {f g : List Cl} (h : ∀ c, c ∈ f → u32 c) (h2 : ∀ c, c ∈ g → u32 c) : ∀ c, c ∈ f ++ g → u32 c := fun c hc => (List.mem_append.mp hc).elim (h c) (h2 c)
theorem Xw {f g : List Cl} (h : ∀ c, c ∈ f → u32 c) (h2 : ∀ c, c ∈ g → u32 c) : ∀ c, c ∈ Ki f g → u32 c := fun c hc => by
 obtain ⟨a, ha, hc⟩ := List.mem_flatMap.mp hc
 obtain ⟨b, hb, rfl⟩ := List.mem_map.mp hc
 exact Jx (h a ha) (h2 b hb)
theorem B0j (c : Cl) : ∀ d, d ∈ B4e c → u32 d := fun d hd => by
 rcases List.mem_append.mp hd with hd | hd
 ·obtain ⟨i, _, rfl⟩ := List.mem_map.mp hd
  exact ⟨by show (0 : Nat) < _; decide, by have := Kr i; show Fl i < 4294967296; omega⟩
 ·obtain ⟨i, _, rfl⟩ := List.mem_map.mp hd
  exact ⟨by have := Kr i; show Fl i < 4294967296; omega, by show (0 : Nat) < _; decide⟩
theorem Y6 {c : Cl} (h : u32 c) : Al [c] := ⟨fun d hd => by rw [List.mem_singleton] at hd; subst hd; exact h, by unfold reach; simp⟩
theorem A4j {f g : List Cl} (h : Al f) (h2 : Al g) : Q5 (J2 f g) := Li (Ug h.1 h2.1)
theorem A4i {f g : List Cl} (h : Al f) (h2 : Al g) : Q5 (Kj f g) := Li (Xw h.1 h2.1)
theorem B1e (c : Cl) : Q5 (A4d c) := Li (B0j c)
theorem Tg {h : List Cl} {c : Cl} (hh : Al h) : Q5 (E5 h c) := Vb fun _ => A4i hh (B1e c)
theorem Ij : Al [B8] := Y6 ⟨by decide, by decide⟩
theorem B1f (f : List Cl) : Q5 (A0v f) := A4k (fun h c _ hh => Tg hh) Ij
theorem A4g (f : List Cl) : Q5 (Mw f) := by unfold Mw; split; exact B1f f; exact Cz
theorem Po {l : List Cl} (h : Al l) : Al (E7 l) := B3n h (fun c hc => (List.mem_filter.mp hc).1) (List.length_filter_le _ _)
theorem B8z {f : List Cl} (h : Al f) : Q5 (ofF f) := by unfold ofF; split; exact Li (Po h).1; exact Cz
theorem A8e (r : List Cl) : Q5 (Hz r) := Vb fun _ => B8z (A4g r)
theorem B4i {f g : List Cl} (h : Al f) (h2 : Al g) : Q5 (Mq f g) := Li fun c hc => by
 obtain ⟨a, ha, hc⟩ := List.mem_flatMap.mp hc
 obtain ⟨b, hb, rfl⟩ := List.mem_map.mp (List.mem_filter.mp hc).1
 exact Jx (h.1 a ha) (h2.1 b hb)
abbrev C4h (x : EL) : Prop := x.2.length ≤ 64
theorem Js (l : List Cl) : C4h (Bc l) := by
 rcases Rh l with ⟨_, _, h, h2⟩ | h | h
 ·show (Bc l).2.length ≤ 64; rw [h]; exact h2
 ·show (Bc l).2.length ≤ 64; rw [Vt A2]; decide
 ·show (Bc l).2.length ≤ 64; rw [Vt A2]; decide
theorem C0h {x : EL} {k : List Cl → EL} (h : x.1 = 0 → C4h (k x.2)) : C4h (Gj x k) := by
 by_cases h0 : x.1 = 0
 ·rw [Cg h0]; exact h h0
 ·rw [Bq h0]; show ([] : List Cl).length ≤ 64; decide
theorem A5b (h : List Cl) (c : Cl) : C4h (E5 h c) := C0h fun _ => Js _
theorem Jr {f : List Cl} (h : Ab f = true) : f.length ≤ 64 := by
 unfold Ab at h
 simp only [Bool.and_eq_true, decide_eq_true_eq] at h
 exact h.2
theorem B8v (c : Cl) : (B4e c).length ≤ 48 := by
 unfold B4e
 rw [List.length_append, List.length_map, List.length_map]
 have h1 : (Ag c.pos).length ≤ 24 := Gh _ _
 have h2 : (Ag c.neg).length ≤ 24 := Gh _ _
 omega
theorem C0d {s i : Nat} (h : i < (Ag s).length) : 0 ≤ (Ag s).getD i 0 ∧ (Ag s).getD i 0 < 24 := by
 have h1 := Ln (A9 (d := (0 : Int)) h)
 exact ⟨h1.1, by have := h1.2; exact_mod_cast this⟩
theorem A4x {s i : Nat} (h : i < (Ag s).length) : Ap ((Ag s).getD i 0) := by have := C0d h; unfold Ap; omega
theorem Yk (f g : List Cl) : (Ki f g).length = f.length * g.length := by
 unfold Ki
 induction f with
 | nil => simp
 | cons a f ih => rw [List.flatMap_cons, List.length_append, ih, List.length_map, List.length_cons, Nat.succ_mul]; omega
theorem A8k (f g : List Cl) (a : Cl) : Ki (f ++ [a]) g = Ki f g ++ g.map fun b => Dq a b := by unfold Ki; rw [List.flatMap_append]; simp
theorem C4 {ok : Nat → Prop} {l : List Cl} {a : SH} {w : World} (h : Ie ok l a w) : Al l := ⟨h.2, h.1.2.1⟩
def Py (i : Int) : EL := if Nz i then (0, [⟨Fl i, 0⟩]) else (2, [])
theorem St.A1b {B : C2} {Γ : List Fact} {Ms : List B2} {w : World} {e : TypeId} {b : Nat} {l m : List Cl} {a a' : SH} (hs : St B Γ (Aa b [sl a l.length, sl a' m.length] e :: Ms) w) {hBp : Prop} (hB : hBp) (hF : CL l a ∈ Γ) (hG : CL m a' ∈ Γ) : St B (Ir [(l, a), (m, a')] (some ⟨b, 0, Option.none⟩, 2) :: Γ) Ms w := by
 have h1 := ((hs.He (sz := 1) (m := 2) rfl Jk).Sx J6).Q3 (x := (l, a)) List.mem_cons_self (List.mem_cons_of_mem _ hF)
 have h2 := h1.Q3 (x := (m, a')) List.mem_cons_self (List.mem_cons_of_mem _ (List.mem_cons_of_mem _ hG))
 exact (h2.Jl (F := Be) (E := J6) (d := Bv) (bt := 24) (l := [(l, a), (m, a')]) (fun _ => rfl) hB List.mem_cons_self rfl rfl Jk).less sx_
theorem Spec.Ni {P : Program} {k : FuncId} {args : Array Value} {pre : List Fact} {e : TypeId} {r r' : EL} (he : r' = r) (h : Spec P k args pre [] (fun x : SH => .tuple #[sl x r.2.length, .int .i64 r.1]) (fun _ => []) (fun x => [Am 2 e x r.2.length (A6 r.2)])) (hr : Q5 r) :
  Spec P k args pre [] (fun x : SH => .tuple #[sl x r'.2.length, .int .i64 r'.1]) (fun x => [CL r'.2 x]) (fun _ => []) := by
 subst he
 exact fun ok w hok hst => (h ok w hok hst).mono fun e w' hh => by
  obtain ⟨x, he, hs⟩ := hh
  exact ⟨x, he, hs.D5 trivial rfl rfl hr.2 hr.1⟩
theorem Spec.Ou {P : Program} {k : FuncId} {args : Array Value} {pre : List Fact} {e : TypeId} {r r' : EL} (he : r' = r) (h : Spec P k args pre [] (fun x : SH => .tuple #[sl x r.2.length, .int .i64 r.1]) (fun _ => []) (fun x => [Am 2 e x r.2.length (A6 r.2)])) :
  Spec P k args pre [] (fun x : SH => .tuple #[sl x r'.2.length, .int .i64 r'.1]) (fun _ => []) (fun x => [Am 2 e x r'.2.length (A6 r'.2)]) := by
 subst he
 exact h
structure Rx where
 form : Int → List Cl → EL
 B4 : Int → List Cl → EL
def elR (x : EL) : Aw (List Cl) := if x.1 = 0 then .ok x.2 else .bad x.1
theorem A9d {x : EL} (h : x.1 = 0) : elR x = .ok x.2 := if_pos h
theorem B2g {x : EL} (h : x.1 ≠ 0) : elR x = .bad x.1 := if_neg h
theorem To {x : EL} {e : Int} : elR x = .bad e ↔ x.1 = e ∧ e ≠ 0 := by
 unfold elR
 split
 ·rename_i h
  constructor
  ·intro h2; cases h2
  ·rintro ⟨h2, h3⟩; exact absurd (h2.symm.trans h) h3
 ·rename_i h
  constructor
  ·intro h2; injection h2 with h2; exact ⟨h2, h2 ▸ h⟩
  ·rintro ⟨h2, h3⟩; rw [h2]
def Rx.row (W : Rx) (k d : Int) (r : List Cl) : EL := if k = 14 then W.B4 d r else W.form d r
def C7n (W : Rx) : Tr Int where
 own d k n _ r := (elR (W.row k d r)).bind fun g => .ok (.inr (n, g))
 B4 d f := (elR (W.B4 d f)).bind fun g => .ok (if g.length = 0 then none else some g)
 Mz d b := .ok (d + b.2)
section
variable {g : Nat → T → Aw T}
end
theorem X8 {C : Type} {A : Tr C} {k : Int} {c : C} {ss : List Br} {s : Nat} {bs : List Br} (hs : s < ss.length) (hb : Dd A k (ss.take s) c = .ok bs) (hf : A.B4 c (ss.getD s Bd).B4 = .ok none) : Dd A k (ss.take (s + 1)) c = .ok bs := by
 rw [Ah (d := Bd) hs, Jy, hb]
 simp only [Aw.bind]
 rw [hf]
theorem X7 {C : Type} {A : Tr C} {t : T} {c : C} {e : Int} {p : Int × List Cl} (h : A.own c t.kind t.n t.name t.r = .ok (.inr p)) (hl : Dt A t.kind 0 t.kids c = .bad e) : D8 A t c = .bad e := by
 rw [Hs, h]; simp only [Aw.bind]; rw [hl]
abbrev C5q (W : Rx) (t : T) (d : Int) : Int × T := Kt (D8 (C7n W) t d)
def B7u (P : List Cl → Int → List Cl → EL) (i : Int) (r : List Cl) (d : Int) (f : List Cl) : EL := if H7 (Bj f) (i + d) = false then (0, f) else Gj (Ae r 0 d) fun s => P f (i + d) s
def D6x (i : Int) (r : List Cl) : Rx := ⟨B7u C4u i r, B7u C4v i r⟩
def B2h (i : Int) (d : Int) (f : List Cl) : EL := Bc (f.map fun c => ⟨C6r c.pos (i + d), C6r c.neg (i + d)⟩)
def D6b (i : Int) : Rx := ⟨B2h i, B2h i⟩
section
variable {W : Rx}
theorem B0p : size t0 = 1 := by decide
end
def D2s (x : Int × T) (k : T → Int × T) : Int × T := if x.1 ≠ 0 then (x.1, t0) else k x.2
section
variable {α : Type} {g : α → T → Int × T}
end
def Z5 (t : T) (i : Int) (r : List Cl) : Int := if B0 t ≠ 0 then B0 t else if (Nz i && Ab r) = false then 2 else 0
def C1r (t : T) (i : Int) (r : List Cl) : Int × T := if Z5 t i r ≠ 0 then (Z5 t i r, t0) else if (Ae r i 1).1 ≠ 0 then ((Ae r i 1).1, t0) else D2s (C5q (D6x i (Ae r i 1).2) t 0) fun x => C5q (D6b i) x 0
section
variable {P : Program} [Tab P] {f : FuncId} {R : Ending → World → Prop} {B : C2} {n : Fz} {K : List Item} {ops : Array Oper} {l : List Nat} {σ : Nat → Value} {Γ : List Fact} {Ms : List B2} {dst : Option Tmp} {ty : TypeId} {x : Operand}
end
end Go.Hy
namespace Go.Hy
open Go Go.ChangeShapes Go.WideShapes Go.RowKit Go.Shelf Go.Proofs
theorem Tz {C : Checked} {os : Os} {f : FuncId} {fn : Func} {s : ChangeSpec} {conds : List PathCond} {ts : List TypeId} {tb : TypeId} {H : Type} {enc : TypeId × Value → H} {L : List (String × DataW Unit)}
  (own : ownKnob C.prog.godebug = none) (started : os.Started) (noInit : C.prog.inits.idxOf? f = none) (hfn : C.prog.funcs[f]? = some fn)
  (witness : ∃ (w : World) (tape : Tape) (i : Input), w.os = os ∧ (w.forCall tape i).Shaped C.prog ∧ i.vars = [] ∧ Input.okWide C.prog (w.forCall tape i) .any w.heap.size f i ∧
   ((s.pre enc C.prog fn conds false (w.forCall tape i).memory i.args ∧ laidMetH C.prog L (w.forCall tape i).memory) ∧ sizedMet enc C.prog fn (OpenSpec.ofChange s) false (w.forCall tape i).memory i.args) ∧ Assume.holds {} C.prog (lone (Frame.enter C.prog f i.args .normal) [] (w.forCall tape i)))
  (laid : laidOutB C.prog = true) (hps : fn.params.toList = ts) (hread : ts.all (fun t => C.prog.readableRec t && decide (t < C.prog.types.size)) = true) (hres : fn.resultTypes = #[tb]) (hbool : C.prog.underlying tb = some .bool) (hvars : s.vars = [])
  (hsays : ∀ ds : List (DataW H), ds.length = ts.length → s.fn H ds = { results := [.lit (.bool true)], args := ds })
  (hcall : ∀ (W : World) (base : Nat) (args : Array Value) (ds : List (DataW H)) (p : List MemPlace), (∀ (j : Nat) t v, ts[j]? = some t → args[j]? = some v → Value.okWide C.prog W .any base t v) →
   DataW.TrodAll enc C.prog W 0 (fun _ => true) true ts args.toList ds p → (∀ x, x ∈ DataW.weightsEach C.prog ts ds → x ≤ reach) → laidMetH C.prog L W →
   Calls C.prog f args W fun e W' => e = .returned (.bool true) ∧ Below W.heap.size W W') :
  ReturnsInHanded {} C os f .any (fun w args => (s.pre enc C.prog fn conds false w args ∧ laidMetH C.prog L w) ∧ sizedMet enc C.prog fn (OpenSpec.ofChange s) false w args) (s.post enc C.prog fn false true false false) := by
 refine returnsInHanded_of_change_and (X := fun w _ => laidMetH C.prog L w) (fun _ _ _ hh h => h.of_heap hh) own started noInit hfn witness ?_
 intro W base args ds gs before hval hW hcnd hwt hL _
 have hW' := hW
 obtain ⟨p, q, hA, hV, rfl, hfz, hnd⟩ := hW
 rw [hvars] at hV
 obtain ⟨rfl, rfl⟩ := trodVars_none hV
 rw [hps] at hA hwt
 have hlen : ∀ {ts : List TypeId} {vs : List Value} {ds : List (DataW H)} {ps : List MemPlace}, DataW.TrodAll enc C.prog W 0 (fun _ => true) true ts vs ds ps → ds.length = ts.length := by
  intro ts
  induction ts with
  | nil => intro vs ds ps h; obtain ⟨_, rfl, _⟩ := trodAll_nil h; rfl
  | cons t ts ih =>
   intro vs ds ps h
   obtain ⟨v, vs1, d, ds1, a, b, rfl, rfl, rfl, _, h2⟩ := trodAll_cons h
   simp [ih h2]
 have hvt : s.plain.varTypes C.prog = [] := by
  have : s.plain.vars = [] := hvars
  unfold DataSpec.varTypes; rw [this]; rfl
 have hw2 : ∀ x, x ∈ DataW.weightsEach C.prog ts ds → x ≤ reach := by
  intro x hx
  rw [List.append_nil, hvt, List.append_nil] at hwt
  have := List.all_eq_true.mp hwt x hx
  exact of_decide_eq_true this
 refine (hcall W base args ds p (fun j t v ht hv => hval j t v (by rw [← Array.getElem?_toList, hps]; exact ht) hv) hA hw2 hL).mono ?_
 intro e W' ⟨he, hb⟩
 have hlt : ∀ x ∈ p, x.block < W.heap.size := fun x hx => hW'.lt x (by simpa using hx)
 refine ⟨.bool true, he, ds, [], p ++ [], [], p, [], hW', ?_, ?_, ?_, hb.frame _, fun h => by cases h⟩
 ·rw [List.append_nil, hsays ds (hlen hA), hres]
  exact ⟨[], [], ⟨1, by simp [DataW.trod, Value.cells, hbool]⟩, rfl, rfl⟩
 ·rw [List.append_nil, hsays ds (hlen hA), hps]
  refine P7 laid hb (fun t ht => ?_) hA hlt
  have := List.all_eq_true.mp hread t ht
  simpa using this
 ·rw [List.append_nil, hsays ds (hlen hA), hvars]
  rfl
theorem B7i {P : Program} {W : World} {nm : String} {t e : TypeId} {tab : List Nat} (hg : P.globalNamed nm = some 0) (ht : (P.globals[0]?).map (·.type) = some t) (hu : P.underlying t = some (.array tab.length e)) (he : P.underlying e = some (.int .u8)) (hc : P.cellsOf e = 1) (hc2 : P.cellsOf t = tab.length) (hpos : 0 < tab.length)
  (hp : ([(nm, (DataW.agg (tab.map fun (v : Nat) => .lit (.int .u8 (v : Int))) : DataW Unit))].all fun x => x.2.handleName?.isNone) = true) (h : laidMetH P [(nm, .agg (tab.map fun (v : Nat) => .lit (.int .u8 (v : Int))))] W) : TabAt 0 tab W ∧ 0 < W.heap.size := by
 rw [MakeChecks.laidMetH_plain _ _ _ hp] at h
 obtain ⟨ps, ⟨g0, t0, cs0, f0, p0, q0, hg0, ht0, hv0, hd0, _⟩, _⟩ := h
 obtain rfl := u_ hg hg0
 obtain rfl := u_ ht ht0
 obtain ⟨xs, m1, rfl, hx1, hlen, hn3, hel⟩ := DataW.trod_array hu hd0
 simp only [Prod.mk.injEq, DataW.agg.injEq] at hx1
 have hcell : ∀ j, j < tab.length → W.cell? ⟨0, j, none⟩ = some (.int .u8 (tab.getD j 0)) := by
  intro j hj
  have h1 := hel j hj
  rw [hc, Nat.mul_one, List.getElem?_eq_getElem A2] at h1
  obtain ⟨n, e1, e2, _⟩ := DataW.trod_int he h1
  have h2 := World.var?_cell hg0 hv0 j
  have h3 : cs0[j]? = some (.int .u8 n) := by
   have h4 := congrArg (fun l => l[0]?) e1
   simp only [List.getElem?_take, List.getElem?_drop, List.getElem?_cons_zero] at h4
   simpa using h4
  rw [h2, h3]
  have h5 : (tab.map fun (v : Nat) => (DataW.lit (.int .u8 (v : Int)) : DataW Unit))[j]? = (xs.map (·.1))[j]? := by rw [hx1.1]
  rw [List.getElem?_map, List.getElem?_map, List.getElem?_eq_getElem hj, List.getElem?_eq_getElem (show j < xs.length by omega)] at h5
  simp only [Option.map_some, Option.some.injEq] at h5
  rw [e2] at h5
  simp only [DataW.lit.injEq, Lit.int.injEq, true_and] at h5
  rw [List.getD_eq_getElem?_getD, List.getElem?_eq_getElem hj]
  simp [← h5]
 refine ⟨hcell, ?_⟩
 have h6 := hcell 0 hpos
 refine Nat.lt_of_not_le fun hz => ?_
 unfold World.cell? at h6
 rw [Array.getElem?_eq_none (show W.heap.size ≤ 0 from hz)] at h6
 simp at h6
theorem B7j {W : World} {tab : List Nat} (h : TabAt 0 tab W ∧ 0 < W.heap.size) : (At 0 0 (tab.map fun (v : Nat) => Value.int .u8 (v : Int))).f (okw W) W := by
 refine ⟨h.2, fun j v hj => ?_⟩
 rw [List.getElem?_map] at hj
 cases hq : tab[j]? with
 | none => rw [hq] at hj; cases hj
 | some k =>
  rw [hq] at hj
  injection hj with hj
  subst hj
  have hlt : j < tab.length := by
   refine Nat.lt_of_not_le fun hn => ?_
   rw [List.getElem?_eq_none hn] at hq
   cases hq
  have h1 := h.1 j hlt
  rw [List.getD_eq_getElem?_getD, hq] at h1
  rw [Nat.zero_add]
  exact h1
end Go.Hy
namespace Go.Hy
abbrev Wd : Type := Nat → Prop
theorem A1s {l : List Cl} (h : Ab l = true) : l.all B3 = true := by
 unfold Ab at h
 simp only [Bool.and_eq_true] at h
 exact h.1.1.1
theorem Iq {l : List Cl} (h : A7 l = true) : Ab l = true ∧ ∀ c, c ∈ l → Je c = false := by
 unfold A7 at h
 rw [Bool.and_eq_true, Bool.not_eq_true'] at h
 refine ⟨h.1, fun c hc => ?_⟩
 cases hq : Je c with
 | false => rfl
 | true => rw [List.any_eq_true.mpr ⟨c, hc, hq⟩] at h; cases h.2
section
variable {f g l : List Cl} {P N : Wd} {a b c : Cl}
end
theorem A0k {c : Cl} (h : B3 c = true) : (∀ i, c.pos.testBit i = true → i < 24) ∧ ∀ i, c.neg.testBit i = true → i < 24 := by
 obtain ⟨h1, h2⟩ := Iz.mp h
 have key : ∀ s i : Nat, s < 16777216 → s.testBit i = true → i < 24 := fun s i hs hi => by
  refine Decidable.byContradiction fun hn => ?_
  have h3 : s < 2 ^ i := Nat.lt_of_lt_of_le (show s < 2 ^ 24 by omega) (Nat.pow_le_pow_right A2 A2)
  rw [Nat.testBit_lt_two_pow h3] at hi
  cases hi
 exact ⟨fun i hi => key _ i h1 hi, fun i hi => key _ i h2 hi⟩
theorem Jp {s : Nat} {x : Int} : x ∈ Ag s ↔ 0 ≤ x ∧ x < 24 ∧ s.testBit x.toNat = true := Gg
theorem A9r {x : EL} {k : List Cl → EL} (h : (Gj x k).1 = 0) : x.1 = 0 ∧ (k x.2).1 = 0 ∧ Gj x k = k x.2 := by
 by_cases h1 : x.1 = 0
 ·rw [Cg h1] at h ⊢; exact ⟨h1, h, rfl⟩
 ·rw [Bq h1] at h; exact absurd h h1
theorem B4y {s j : Nat} (hj : j < 24) : (j : Int) ∈ Ag s ↔ s.testBit j = true := by
 rw [Jp]
 simp only [Int.toNat_natCast]
 constructor
 ·rintro ⟨_, _, h⟩; exact h
 ·intro h; exact ⟨by omega, by omega, h⟩
def uE : T := .mk 3 0 ⟨#[]⟩ [] [] []
def aE (t u : T) : T := .mk 6 0 ⟨#[]⟩ [] [t, u] []
def lE (t : T) : T := .mk 5 0 ⟨#[]⟩ [] [t] []
theorem A0j {a b : Cl} (h : B3 a = true) (h2 : B3 b = true) : B3 (Dq a b) = true := by
 obtain ⟨a1, a2⟩ := Iz.mp h
 obtain ⟨b1, b2⟩ := Iz.mp h2
 exact Iz.mpr ⟨Nat.or_lt_two_pow (n := 24) a1 b1, Nat.or_lt_two_pow (n := 24) a2 b2⟩
theorem B6n {f g : List Cl} (h : f.all B3 = true) (h2 : g.all B3 = true) : (Ki f g).all B3 = true := List.all_eq_true.mpr fun c hc => by
 obtain ⟨a, ha, hc⟩ := List.mem_flatMap.mp hc
 obtain ⟨b, hb, rfl⟩ := List.mem_map.mp hc
 exact A0j (List.all_eq_true.mp h a ha) (List.all_eq_true.mp h2 b hb)
def U1 (i : Int) : Cl := ⟨Fl i, 0⟩
theorem Vw {k n : Int} {nm : ByteArray} {r : List Cl} (h : Sk k n nm r) : (k = 14 → A7 r = true) ∧ Ab r = true := by
 obtain ⟨_, _, h3, h4, h5, h6, h7⟩ := h
 refine ⟨h6, ?_⟩
 by_cases e : k = 13 ∨ k = 21 ∨ k = 26
 ·exact h5 e
 ·by_cases e2 : k = 14
  ·exact (Iq (h6 e2)).1
  ·rw [h7 A2]; decide
theorem B1g (i : Int) : Q5 (Py i) := by
 unfold Py
 split
 ·exact Y6 ⟨by have := Kr i; show Fl i < _; omega, by show (0 : Nat) < _; omega⟩
 ·exact Cz
section
variable {C : Type} {A : Tr C}
end
def A7r (l : List Cl) : List Cl := l.filter fun c => !Pq c
theorem B3p {l : List Cl} (h : l.all B3 = true) : A7r l = E7 l := by
 unfold A7r E7
 refine List.filter_congr fun c hc => ?_
 rw [Sc (List.all_eq_true.mp h c hc)]
theorem C0c (s : Nat) : (Ag s).Pairwise (· < ·) := by
 unfold Ag C1
 rw [List.pairwise_map]
 refine List.Pairwise.imp (fun {a b} h => by omega) ((List.pairwise_lt_range (n := 24)).filter _)
theorem D4a (s : Nat) : (Ag s).length ≤ 24 := by
 unfold Ag C1
 rw [List.length_map]
 exact Nat.le_trans (List.length_filter_le _ _) D7
def Nt (f g : List Cl) : EL := if (Ab f && Ab g) = false then (2, []) else Kj f g
def Nx (f g : List Cl) : EL := if (Ab f && Ab g) = false then (2, []) else J2 f g
def Ft (f g : List Cl) : EL := if (A7 f && A7 g) = false then (2, []) else Bc (A7r (Ki f g))
theorem A9n {f g : List Cl} : E7 (Ki f g) = f.flatMap fun a => E7 (g.map fun b => Dq a b) := by
 unfold E7 Ki
 rw [List.filter_flatMap]
theorem P9 {f g : List Cl} (h : A7 f = true) (h2 : A7 g = true) : Ft f g = Mq f g := by
 unfold Ft Mq
 rw [if_neg (by simp [h, h2]), B3p (B6n (A1s (Iq h).1) (A1s (Iq h2).1)), A9n]
def My (k : Int) (r : List Cl) (ks : List T) : T := .mk k 0 ⟨#[]⟩ r ks []
abbrev kd (t : T) (i : Nat) : T := t.kids.getD i t0
abbrev Ev := List T × List (List Cl)
def ofE (p neg : Bool) (f : List Cl) : EL := if p = true then (if neg = true then Hz f else ofF f) else if neg = true then Mw f else (0, f)
def Lk (p : Bool) (g h : List Cl) : EL := if p = true then Ft g h else Nt g h
def A1j (p : Bool) (g h : List Cl) : EL := if p = true then Ny g h else Nx g h
def Df (p neg : Bool) (D : List (List Cl)) : List Int → List Cl → EL
 | [], g => (0, g)
 | i :: l, g => Gj (ofE p neg (D.getD i.toNat [])) fun h => Gj (Lk p g h) fun g => Df p neg D l g
def Xn (p : Bool) (D : List (List Cl)) (c : Cl) : EL := Gj (Df p false D (Ag c.pos) [B8]) fun g => Df p true D (Ag c.neg) g
def Fi (p : Bool) (D : List (List Cl)) (h : List Cl) (c : Cl) : EL := Gj (Xn p D c) fun g => A1j p h g
def Hv (p : Bool) (D : List (List Cl)) (f : List Cl) : EL := Cw (Fi p D) [] f
theorem U8 {p neg : Bool} {D : List (List Cl)} : ∀ {l m : List Int} {g g' : List Cl}, Df p neg D l g = (0, g') → Df p neg D (l ++ m) g = Df p neg D m g'
 | [], m, g, g', h => by
  rw [Df, Prod.mk.injEq] at h
  rw [List.nil_append, h.2]
 | i :: l, m, g, g', h => by
  rw [Df] at h
  rw [List.cons_append, Df]
  by_cases h1 : (ofE p neg (D.getD i.toNat [])).1 = 0
  ·rw [Cg h1] at h ⊢
   by_cases h2 : (Lk p g (ofE p neg (D.getD i.toNat [])).2).1 = 0
   ·rw [Cg h2] at h ⊢
    exact U8 h
   ·rw [Bq h2, Prod.mk.injEq] at h
    exact absurd h.1 h2
  ·rw [Bq h1, Prod.mk.injEq] at h
   exact absurd h.1 h1
theorem C4f {p neg : Bool} {D : List (List Cl)} {l : List Int} {g g' : List Cl} {k : Nat} (hk : k < l.length) (h : Df p neg D (l.take k) g = (0, g')) (h1 : (ofE p neg (D.getD (l.getD k 0).toNat [])).1 = 0) (h2 : (Lk p g' (ofE p neg (D.getD (l.getD k 0).toNat [])).2).1 = 0) :
  Df p neg D (l.take (k + 1)) g = (0, (Lk p g' (ofE p neg (D.getD (l.getD k 0).toNat [])).2).2) := by
 rw [Ah (d := 0) hk, U8 h, Df, Cg h1, Cg h2, Df]
theorem B4x {p neg : Bool} {D : List (List Cl)} {l : List Int} {g g' : List Cl} {k : Nat} (hk : k < l.length) (h : Df p neg D (l.take k) g = (0, g')) (h1 : (ofE p neg (D.getD (l.getD k 0).toNat [])).1 ≠ 0) : Df p neg D l g = ((ofE p neg (D.getD (l.getD k 0).toNat [])).1, []) := by
 have e2 : l = l.take k ++ l.getD k 0 :: l.drop (k + 1) := by rw [Ca (d := 0) hk, List.getElem_cons_drop, List.take_append_drop]
 rw [e2, U8 h, ← e2, Df, Bq h1]
theorem B4w {p neg : Bool} {D : List (List Cl)} {l : List Int} {g g' : List Cl} {k : Nat} (hk : k < l.length) (h : Df p neg D (l.take k) g = (0, g')) (h1 : (ofE p neg (D.getD (l.getD k 0).toNat [])).1 = 0) (h2 : (Lk p g' (ofE p neg (D.getD (l.getD k 0).toNat [])).2).1 ≠ 0) : Df p neg D l g = ((Lk p g' (ofE p neg (D.getD (l.getD k 0).toNat [])).2).1, []) := by
 have e2 : l = l.take k ++ l.getD k 0 :: l.drop (k + 1) := by rw [Ca (d := 0) hk, List.getElem_cons_drop, List.take_append_drop]
 rw [e2, U8 h, ← e2, Df, Cg h1, Bq h2]
theorem Rc {p neg : Bool} {D : List (List Cl)} {l : List Int} {g g' : List Cl} {k : Nat} (hk : k = l.length) (h : Df p neg D (l.take k) g = (0, g')) : Df p neg D l g = (0, g') := by
 rw [hk, List.take_length] at h
 exact h
def H6 {α β : Type} (g : α → Int × β) : List α → Int × List β
 | [] => (0, [])
 | a :: l => if (g a).1 ≠ 0 then ((g a).1, []) else if (H6 g l).1 ≠ 0 then ((H6 g l).1, []) else (0, (g a).2 :: (H6 g l).2)
theorem A1a {α β : Type} {g : α → Int × β} : ∀ {l : List α}, (∀ a, a ∈ l → (g a).1 = 0) → H6 g l = (0, l.map fun a => (g a).2)
 | [], _ => rfl
 | a :: l, h => by
  have h0 := h a List.mem_cons_self
  have ih := A1a (g := g) (l := l) fun b hb => h b (List.mem_cons_of_mem _ hb)
  rw [H6, if_neg (by simp [h0]), ih, if_neg D7]
  rfl
theorem Vm {α β : Type} {g : α → Int × β} {d : α} : ∀ {l : List α} {i : Nat}, i < l.length → (∀ j, j < i → (g (l.getD j d)).1 = 0) → (g (l.getD i d)).1 ≠ 0 → H6 g l = ((g (l.getD i d)).1, [])
 | [], i, h, _, _ => absurd h D7
 | a :: l, 0, h, _, h2 => by
  rw [List.getD_cons_zero] at h2 ⊢
  rw [H6, if_pos h2]
 | a :: l, i + 1, h, h1, h2 => by
  have h0 := h1 0 A2
  rw [List.getD_cons_zero] at h0
  rw [List.getD_cons_succ] at h2 ⊢
  have ih := Vm (g := g) (d := d) (l := l) (i := i) (by simpa using h) (fun j hj => by have := h1 (j + 1) A2; rwa [List.getD_cons_succ] at this) h2
  rw [H6, if_neg (by simp [h0]), ih, if_pos h2]
def Xa {α : Type} (x : Int × α) : Aw α := if x.1 = 0 then .ok x.2 else .bad x.1
def X6 (e : Ev) : Aw Ev := (Xa (H6 (fun t => Bn t 0 1) e.1)).bind fun l => .ok (.mk 1 0 ⟨#[]⟩ [] [] [] :: l, e.2)
def U0 (e : Ev) : Aw Ev := (Xa (H6 (fun f => Ae f 0 1) e.2)).bind fun D => (Xa (H6 (fun t => Bp t 0 1) e.1)).bind fun l => .ok (l, [⟨1, 0⟩] :: D)
def Lt (e : Ev) (b : Int × Int) : Aw Ev := if b.1 = 1 then X6 e else if b.2 = 1 then U0 e else .ok e
def Ck : Tr Ev where
 own e k n nm r := if k = 1 then .ok (.inl (e.1.getD n.toNat t0)) else (elR (Hv (decide (k = 14)) e.2 r)).bind fun g => .ok (.inr (0, g))
 B4 e f := (elR (Hv true e.2 f)).bind fun g => .ok (if g.length = 0 then none else some g)
 Mz e b := Lt e b
def Fc (e : Ev) : Bool := decide (e.1.length ≤ 200) && decide (e.2.length ≤ 24)
def De (e : Ev) : Bool := e.2.all fun f => Ab f
def J0 (f : List Cl) (d : Nat) : Bool := decide (Bj f / 2 ^ d = 0)
def Cf (e : Ev) (v d : Int) : Int :=
 if (decide (v < 0) || decide (d < 0) || decide (24 < d) || !Fc e || !De e || !(e.2.all fun f => J0 f d.toNat)) = true then 2
 else (H6 (fun t => (Bz t v d, ())) e.1).1
def idE (v d : Int) : Int × Ev := if v < 0 ∨ 200 < v ∨ d < 0 ∨ 24 < d then (2, [], []) else (0, (List.range v.toNat).map (fun (n : Nat) => (T.mk 1 (n : Int) ⟨#[]⟩ [] [] [])), (List.range d.toNat).map fun (i : Nat) => [⟨Fl (i : Int), 0⟩])
def We (f : List Cl) (e : Ev) : EL := if (Ab f && Fc e && J0 f e.2.length && De e) = true then Hv false e.2 f else (2, [])
def Az (t : T) (e : Ev) : Int × T :=
 if Fc e = false then (2, t0)
 else if Bz t e.1.length e.2.length ≠ 0 then (Bz t e.1.length e.2.length, t0)
 else if (De e && e.1.all fun x => decide (B0 x = 0)) = false then (2, t0)
 else match D8 Ck t e with
  | .bad x => (x, t0)
  | .ok u => if B0 u ≠ 0 then (B0 u, t0) else (0, u)
def C5t (e f : Ev) : Int × Ev :=
 if (H6 (fun g => We g f) e.2).1 ≠ 0 then ((H6 (fun g => We g f) e.2).1, [], [])
 else if (H6 (fun t => Az t f) e.1).1 ≠ 0 then ((H6 (fun t => Az t f) e.1).1, [], [])
 else (0, (H6 (fun t => Az t f) e.1).2, (H6 (fun g => We g f) e.2).2)
def A0i (p : Bool) (g : List Cl) : Prop := if p = true then A7 g = true else Ab g = true
theorem B3o {p : Bool} {g : List Cl} (h : A0i p g) : Ab g = true := by
 unfold A0i at h
 split at h
 ·exact (Iq h).1
 ·exact h
def idV (v : Nat) : List T := (List.range v).map fun (n : Nat) => T.mk 1 (n : Int) ⟨#[]⟩ [] [] []
def idD (d : Nat) : List (List Cl) := (List.range d).map fun (i : Nat) => [U1 (i : Int)]
theorem Uc {f : List Cl} {d : Nat} (hd : d ≤ 24) (hf : f.all B3 = true) (h : within f d = true) : ∀ c, c ∈ f → ∀ j, (c.pos ||| c.neg).testBit j = true → j < d := fun c hc j hj => by
 refine Decidable.byContradiction fun hn => ?_
 have h24 : j < 24 := by
  obtain ⟨r1, r2⟩ := A0k (List.all_eq_true.mp hf c hc)
  rw [Nat.testBit_or, Bool.or_eq_true] at hj
  rcases hj with hj | hj
  ·exact r1 j hj
  ·exact r2 j hj
 have h1 := (within_iff (l := f) (d := d) A2).mp h j A2
 rw [Yz.mpr ⟨h24, c, hc, hj⟩] at h1
 cases h1
theorem B6k (k i : Int) : ((binds k i).1 = 0 ∨ (binds k i).1 = 1) ∧ ((binds k i).2 = 0 ∨ (binds k i).2 = 1) ∧ ¬ ((binds k i).1 = 1 ∧ (binds k i).2 = 1) := by
 unfold binds
 (repeat' split) <;> simp
theorem C0w {v d : Int} (hv : 0 ≤ v ∧ v ≤ 200) (hd : 0 ≤ d ∧ d ≤ 24) : idE v d = (0, idV v.toNat, idD d.toNat) := by
 unfold idE
 rw [if_neg A2]
 rfl
variable {S : Nat → Prop}
theorem Oh {α β : Type} {g : α → Int × β} : ∀ {l : List α}, (H6 g l).1 = 0 → (∀ a, a ∈ l → (g a).1 = 0) ∧ (H6 g l).2 = l.map fun a => (g a).2
 | [], _ => ⟨fun t ht => (by cases ht), rfl⟩
 | t :: ts, h => by
  rw [H6] at h ⊢
  by_cases h1 : (g t).1 ≠ 0
  ·rw [if_pos h1] at h; exact absurd h h1
  ·rw [if_neg h1] at h ⊢
   by_cases h2 : (H6 g ts).1 ≠ 0
   ·rw [if_pos h2] at h; exact absurd h h2
   ·rw [if_neg h2]
    obtain ⟨a1, a2⟩ := Oh (Decidable.not_not.mp h2)
    refine ⟨fun u hu => ?_, by rw [a2]; rfl⟩
    rcases List.mem_cons.mp hu with rfl | hu
    ·exact Decidable.not_not.mp h1
    ·exact a1 u hu
theorem Vx {t : T} {ns : List Int} {r : Aw T} (h : (Bm t ns r).1 = 0) : B0 t = 0 ∧ (r = .ok (Bm t ns r).2 ∨ r = .bad 0) := by
 unfold Bm at h ⊢
 split at h
 ·rename_i h1; exact absurd h h1
 ·rename_i h1
  split at h
  ·cases h
  ·rename_i h2
   rw [if_neg h1, if_neg h2]
   refine ⟨Decidable.not_not.mp h1, ?_⟩
   cases r with
   | ok u => exact .inl rfl
   | bad e => right; simp only at h; subst h; rfl
theorem B3a {x : T} (h : (Bn x 0 1).1 = 0) : D8 (Ci 1 0) x (0, 0) = .ok (Bn x 0 1).2 := by
 obtain ⟨h1, h2 | h2⟩ := Vx h
 ·exact h2
 ·have := Rf x h2; omega
theorem B5y {x : T} (h : (Bp x 0 1).1 = 0) : D8 (Ci 0 1) x (0, 0) = .ok (Bp x 0 1).2 := by
 obtain ⟨h1, h2 | h2⟩ := Vx h
 ·exact h2
 ·have := Rf x h2; omega
theorem Sa {α : Type} {x : Int × α} {a : α} (h : Xa x = .ok a) : x.1 = 0 ∧ x.2 = a := by
 unfold Xa at h
 split at h
 ·rename_i h1; injection h with h; exact ⟨h1, h⟩
 ·cases h
theorem Nj {α : Type} {x : Int × α} {e : Int} (h : Xa x = .bad e) : e ≠ 0 := by
 unfold Xa at h
 split at h
 ·cases h
 ·rename_i h1; injection h with h; exact h ▸ h1
theorem Wq {e : Ev} {b : Int × Int} {x : Int} (h : Lt e b = .bad x) : x ≠ 0 := by
 unfold Lt at h
 split at h
 ·unfold X6 at h
  rcases Bg h with h | ⟨_, _, h⟩
  ·exact Nj h
  ·cases h
 ·split at h
  ·unfold U0 at h
   rcases Bg h with h | ⟨_, _, h⟩
   ·exact Nj h
   ·rcases Bg h with h | ⟨_, _, h⟩
    ·exact Nj h
    ·cases h
  ·cases h
theorem Pv : ∀ (t : T) {e : Ev} {x : Int}, D8 Ck t e = .bad x → x ≠ 0 := T.ind fun t ih e x h => by
 rcases A3c h with h1 | ⟨b, _, h1⟩ | ⟨p, hp, h1 | ⟨c', _, h2⟩⟩
 ·simp only [Ck] at h1
  split at h1
  ·cases h1
  ·rcases Bg h1 with h1 | ⟨_, _, h1⟩
   ·exact (To.mp h1).2
   ·cases h1
 ·simp only [Ck] at h1
  rcases Bg h1 with h1 | ⟨_, _, h1⟩
  ·exact (To.mp h1).2
  ·cases h1
 ·exact Wq h1
 ·exact ih p hp h2
abbrev bnd (b : Int × Int) : Prop := (b.1 = 0 ∨ b.1 = 1) ∧ (b.2 = 0 ∨ b.2 = 1) ∧ ¬ (b.1 = 1 ∧ b.2 = 1)
theorem C1z (k : Int) : bnd (0, more k) := ⟨.inl rfl, by have := A0y k; show more k = 0 ∨ more k = 1; omega, fun h => by cases h.1⟩
section
variable {CA CB CC CD : Type} {A : Tr CA} {B : Tr CB} {C : Tr CC} {D : Tr CD} (nv mv : Bool) (R : CA → CB → CC → CD → Int → Int → Prop)
variable {nv mv R}
end
theorem B5m {α β : Type} (g : α → β) {l : List α} {i : Nat} (h : i < l.length) (d : α) (d' : β) : (l.map g).getD i d' = g (l.getD i d) := by
 rw [Ca (d := d') (by simpa using h), Ca (d := d) h, List.getElem_map]
theorem B3c {e e' : Ev} (h : X6 e = .ok e') : e' = (vE 0 :: e.1.map (fun t => (Bn t 0 1).2), e.2) ∧ ∀ t, t ∈ e.1 → D8 (Ci 1 0) t (0, 0) = .ok (Bn t 0 1).2 := by
 unfold X6 at h
 obtain ⟨l, h3, h4⟩ := Aw.Ac h
 injection h4 with h4
 obtain ⟨h5, h6⟩ := Sa h3
 obtain ⟨h7, h8⟩ := Oh h5
 rw [h8] at h6
 subst h6
 exact ⟨h4.symm, fun t ht => B3a (h7 t ht)⟩
theorem B6b {e e' : Ev} (h : U0 e = .ok e') : e' = (e.1.map (fun t => (Bp t 0 1).2), [⟨1, 0⟩] :: e.2.map (fun f => (Ae f 0 1).2)) ∧ (∀ t, t ∈ e.1 → D8 (Ci 0 1) t (0, 0) = .ok (Bp t 0 1).2) ∧ ∀ f, f ∈ e.2 → Cc 1 f 0 = .ok (Ae f 0 1).2 := by
 unfold U0 at h
 obtain ⟨D, h3, h4⟩ := Aw.Ac h
 obtain ⟨l, h5, h6⟩ := Aw.Ac h4
 injection h6 with h6
 obtain ⟨a1, a2⟩ := Sa h3
 obtain ⟨a3, a4⟩ := Oh a1
 rw [a4] at a2
 subst a2
 obtain ⟨b1, b2⟩ := Sa h5
 obtain ⟨b3, b4⟩ := Oh b1
 rw [b4] at b2
 subst b2
 refine ⟨h6.symm, fun t ht => B5y (b3 t ht), fun f hf => ?_⟩
 have h9 := a3 f hf
 rw [A0f (Vy h9).1 A2 A2, if_pos h9]
theorem C4y {t : T} {e : Ev} (hk : t.kind = 1) : D8 Ck t e = .ok (e.1.getD t.n.toNat t0) := by
 rw [Hs]
 have : Ck.own e t.kind t.n t.name t.r = .ok (.inl (e.1.getD t.n.toNat t0)) := by
  simp only [Ck]
  rw [if_pos hk]
 rw [this]
 rfl
theorem B4h (f : List Cl) : Q5 (Mw f) := by
 unfold Mw
 split
 ·exact B1f f
 ·exact Cz
theorem R6 {p neg : Bool} {f : List Cl} (h : Al f) : Q5 (ofE p neg f) := by
 unfold ofE
 split
 ·split
  ·exact A8e f
  ·exact B8z h
 ·split
  ·exact B4h f
  ·exact h
theorem A4h {p : Bool} {g k : List Cl} (hg : Al g) (hk : Al k) : Q5 (Lk p g k) := by
 unfold Lk
 split
 ·by_cases h : (A7 g && A7 k) = false
  ·unfold Ft; rw [if_pos h]; exact Cz
  ·have h2 : A7 g = true ∧ A7 k = true := by simpa using h
   rw [P9 h2.1 h2.2]
   exact B4i hg hk
 ·unfold Nt
  split
  ·exact Cz
  ·exact A4i hg hk
theorem B9a {p : Bool} {g k : List Cl} (hg : Al g) (hk : Al k) : Q5 (A1j p g k) := by
 unfold A1j
 split
 ·unfold Ny
  split
  ·exact Cz
  ·exact A4j hg hk
 ·unfold Nx
  split
  ·exact Cz
  ·exact A4j hg hk
theorem C0f (p : Bool) (g k : List Cl) : (Lk p g k).2.length ≤ 64 := by
 unfold Lk
 split
 ·unfold Ft
  split
  ·show ([] : List Cl).length ≤ 64; simp
  ·exact Js _
 ·unfold Nt
  split
  ·show ([] : List Cl).length ≤ 64; simp
  ·exact Js _
theorem C0g (p : Bool) (g k : List Cl) : (A1j p g k).2.length ≤ 64 := by
 unfold A1j
 split
 ·unfold Ny
  split
  ·show ([] : List Cl).length ≤ 64; simp
  ·exact Js _
 ·unfold Nx
  split
  ·show ([] : List Cl).length ≤ 64; simp
  ·exact Js _
theorem Yo {x : EL} {k : List Cl → EL} {n : Nat} (h : ∀ g, (k g).2.length ≤ n) : (Gj x k).2.length ≤ n := by
 by_cases h0 : x.1 = 0
 ·rw [Cg h0]; exact h _
 ·rw [Bq h0]; exact Nat.zero_le _
theorem Jo {x : EL} {k : List Cl → EL} (h : Q5 x) (hk : ∀ g, Al g → Q5 (k g)) : Q5 (Gj x k) := by
 by_cases h0 : x.1 = 0
 ·rw [Cg h0]; exact hk _ h
 ·rw [Bq h0]; exact Cz
def Dw (p neg : Bool) (f g : List Cl) : EL := Gj (ofE p neg f) fun h => Lk p g h
theorem Hj {p neg : Bool} {f g : List Cl} (hf : Al f) (hg : Al g) : Q5 (Dw p neg f g) := Jo (R6 hf) fun _ h => A4h hg h
theorem Gr {l : List CP} {j : Nat} (h : j < l.length) : (l.map (·.1)).getD j [] = (l.getD j Bv).1 := B5m _ h Bv []
theorem M8 {p neg : Bool} {D : List (List Cl)} {f : List Cl} {l : List Int} {z hv : List Cl} {k j : Nat} (hk : k < l.length) (h : Df p neg D (l.take k) z = (0, hv)) (hj : l.getD k 0 = (j : Int)) (hD : D.getD j [] = f) (h0 : (Dw p neg f hv).1 = 0) : Df p neg D (l.take (k + 1)) z = (0, (Dw p neg f hv).2) := by
 unfold Dw at h0 ⊢
 obtain ⟨h1, h2, e⟩ := A9r h0
 have e1 : D.getD (l.getD k 0).toNat [] = f := by rw [hj, Int.toNat_natCast]; exact hD
 rw [C4f hk h (by rw [e1]; exact h1) (by rw [e1]; exact h2), e1, e]
theorem Kl {p neg : Bool} {D : List (List Cl)} {f : List Cl} {l : List Int} {z hv : List Cl} {k j : Nat} (hk : k < l.length) (h : Df p neg D (l.take k) z = (0, hv)) (hj : l.getD k 0 = (j : Int)) (hD : D.getD j [] = f) (h0 : (Dw p neg f hv).1 ≠ 0) : Df p neg D l z = ((Dw p neg f hv).1, []) := by
 unfold Dw at h0 ⊢
 have e1 : D.getD (l.getD k 0).toNat [] = f := by rw [hj, Int.toNat_natCast]; exact hD
 by_cases h1 : (ofE p neg f).1 = 0
 ·rw [Cg h1] at h0 ⊢
  rw [B4w hk h (by rw [e1]; exact h1) (by rw [e1]; exact h0), e1]
 ·rw [Bq h1] at h0 ⊢
  rw [B4x hk h (by rw [e1]; exact h1), e1]
theorem K2 {p neg : Bool} {D : List (List Cl)} (hD : ∀ j, Al (D.getD j [])) : ∀ {l : List Int} {g : List Cl}, Al g → Q5 (Df p neg D l g)
 | [], g, hg => hg
 | i :: l, g, hg => by
  rw [Df]
  exact Jo (R6 (hD _)) fun h hh => Jo (A4h hg hh) fun g hg => K2 hD hg
theorem Nv {p neg : Bool} {D : List (List Cl)} : ∀ {l : List Int} {g : List Cl}, g.length ≤ 64 → (Df p neg D l g).2.length ≤ 64
 | [], g, hg => hg
 | i :: l, g, hg => by
  rw [Df]
  refine Yo fun h => ?_
  by_cases h0 : (Lk p g h).1 = 0
  ·rw [Cg h0]; exact Nv (C0f _ _ _)
  ·rw [Bq h0]; exact Nat.zero_le _
theorem B9b {p : Bool} {D : List (List Cl)} {c : Cl} (hD : ∀ j, Al (D.getD j [])) : Q5 (Xn p D c) := Jo (K2 hD Ij) fun _ hg => K2 hD hg
theorem Va {p : Bool} {D : List (List Cl)} {c : Cl} {h : List Cl} (hD : ∀ j, Al (D.getD j [])) (hh : Al h) : Q5 (Fi p D h c) := Jo (B9b hD) fun _ hg => B9a hh hg
theorem A5a (p : Bool) (D : List (List Cl)) (h : List Cl) (c : Cl) : (Fi p D h c).2.length ≤ 64 := Yo fun _ => C0g _ _ _
theorem B5o {g : List Cl → Cl → EL} {m : List Cl} (hg : ∀ h c, Al h → Q5 (g h c)) : ∀ {h : List Cl}, Al h → Q5 (Cw g h m) := by
 induction m with
 | nil => intro h hh; exact hh
 | cons c m ih =>
  intro h hh
  rw [Cw]
  exact Jo (hg h c hh) fun _ h2 => ih h2
theorem A4f {p : Bool} {D : List (List Cl)} {f : List Cl} (hD : ∀ j, Al (D.getD j [])) : Q5 (Hv p D f) := B5o (fun h c hh => Va hD hh) Cz
theorem Sv {l : List CP} (h : ∀ j, j < l.length → Al (l.getD j Bv).1) (j : Nat) : Al ((l.map (·.1)).getD j []) := by
 by_cases hj : j < l.length
 ·rw [Gr hj]; exact h j hj
 ·rw [List.getD_eq_getElem?_getD, List.getElem?_eq_none (by simpa using hj)]
  exact Cz
theorem Spec.B2e {P : Program} {k : FuncId} {args : Array Value} {pre : List Fact} {Ms0 : List B2} {r r' : EL} (he : r' = r) (h : Spec P k args pre Ms0 (fun x : SH => .tuple #[sl x r.2.length, .int .i64 r.1]) (fun x => [CL r.2 x]) (fun _ => [])) : Spec P k args pre Ms0 (fun x : SH => .tuple #[sl x r'.2.length, .int .i64 r'.1]) (fun x => [CL r'.2 x]) (fun _ => []) := by
 subst he
 exact h
def Cu {α β : Type} (g : α → Int × β) (z : List β) (l : List α) : Int × List β := if (H6 g l).1 ≠ 0 then ((H6 g l).1, []) else (0, z ++ (H6 g l).2)
theorem Se {α β : Type} {g : α → Int × β} {z : List β} {l : List α} (h : ∀ a, a ∈ l → (g a).1 = 0) : Cu g z l = (0, z ++ l.map fun a => (g a).2) := by
 unfold Cu
 rw [A1a h, if_neg D7]
theorem Sd {α β : Type} {g : α → Int × β} {z : List β} {d : α} {l : List α} {i : Nat} (hi : i < l.length) (h : ∀ j, j < i → (g (l.getD j d)).1 = 0) (h2 : (g (l.getD i d)).1 ≠ 0) : Cu g z l = ((g (l.getD i d)).1, []) := by
 unfold Cu
 rw [Vm hi h h2, if_pos h2]
theorem A2f {α β : Type} {g : α → Int × β} {d : α} {l : List α} {i : Nat} (hi : i = l.length) (h : ∀ j, j < i → (g (l.getD j d)).1 = 0) : ∀ a, a ∈ l → (g a).1 = 0 := fun a ha => by
 obtain ⟨j, hj, rfl⟩ := List.mem_iff_getElem.mp ha
 rw [← Ca (d := d) hj]
 exact h j A2
theorem Ul {α β : Type} {f : α → β} {d : α} {l : List α} {k : Nat} (h : k < l.length) : (l.take (k + 1)).map f = (l.take k).map f ++ [f (l.getD k d)] := by rw [Ah (d := d) h, List.map_append]; rfl
def Lh (r : Aw Ev) (c : Int) (e : Ev) : Prop := (c = 0 → r = .ok e) ∧ (c ≠ 0 → r = .bad c)
theorem B7a (ts : List T) (D : List (List Cl)) : Lh (X6 (ts, D)) (Cu (fun t => Bn t 0 1) [vE 0] ts).1 ((Cu (fun t => Bn t 0 1) [vE 0] ts).2, D) := by
 unfold Cu X6 Lh Xa
 by_cases h : (H6 (fun t => Bn t 0 1) ts).1 ≠ 0
 ·rw [if_pos h]
  refine ⟨fun h0 => absurd h0 h, fun _ => ?_⟩
  rw [if_neg h]; rfl
 ·rw [if_neg h]
  refine ⟨fun _ => ?_, fun h0 => absurd rfl h0⟩
  rw [if_pos (Decidable.not_not.mp h)]; rfl
theorem B6a {ts : List T} {D : List (List Cl)} (h : (Cu (fun f => Ae f 0 1) [[⟨1, 0⟩]] D).1 ≠ 0) : U0 (ts, D) = .bad (Cu (fun f => Ae f 0 1) [[⟨1, 0⟩]] D).1 := by
 unfold Cu at h ⊢
 unfold U0 Xa
 by_cases h1 : (H6 (fun f => Ae f 0 1) D).1 ≠ 0
 ·rw [if_pos h1, if_neg h1]; rfl
 ·rw [if_neg h1] at h; exact absurd rfl h
theorem B5z {ts : List T} {D : List (List Cl)} (h : (Cu (fun f => Ae f 0 1) [[⟨1, 0⟩]] D).1 = 0) : Lh (U0 (ts, D)) (Cu (fun t => Bp t 0 1) [] ts).1 ((Cu (fun t => Bp t 0 1) [] ts).2, (Cu (fun f => Ae f 0 1) [[⟨1, 0⟩]] D).2) := by
 unfold Cu at h
 by_cases h1 : (H6 (fun f => Ae f 0 1) D).1 ≠ 0
 ·rw [if_pos h1] at h; exact absurd h h1
 ·unfold Cu Lh U0 Xa
  rw [if_neg h1, if_pos (Decidable.not_not.mp h1)]
  by_cases h2 : (H6 (fun t => Bp t 0 1) ts).1 ≠ 0
  ·rw [if_pos h2]
   refine ⟨fun h0 => absurd h0 h2, fun _ => ?_⟩
   rw [if_neg h2]; rfl
  ·rw [if_neg h2]
   refine ⟨fun _ => ?_, fun h0 => absurd rfl h0⟩
   rw [if_pos (Decidable.not_not.mp h2)]; rfl
theorem C6t {ok : Nat → Prop} {w : World} {l : List CP} {a : SH} (h : (Ir l a).f ok w) (j : Nat) (hj : j < l.length) : Al (l.getD j Bv).1 := C4 (h.2 _ (A9 hj))
def Es (t : T) (e : Ev) : Int × T := Kt (D8 Ck t e)
def Fu (t : T) (e : Ev) (b : Int × Int) : Int × T := Kt ((Lt e b).bind fun e' => D8 Ck t e')
theorem C0q {t : T} {e : Ev} {b : Int × Int} {c : Int} (h : Lt e b = .bad c) : Fu t e b = (c, t0) := by unfold Fu; rw [h]; rfl
theorem C4l {t : T} {e e' : Ev} {b : Int × Int} (h : Lt e b = .ok e') : Fu t e b = Es t e' := by unfold Fu; rw [h]; rfl
theorem Wp {e e' : Ev} {b : Int × Int} {n : Nat} (hn : 1 ≤ n) (h : ∀ x, x ∈ e.1 → size x ≤ n) (hk : Lt e b = .ok e') : (∀ x, x ∈ e'.1 → size x ≤ n) ∧ (bnd b → (e'.1.length : Int) = e.1.length + b.1 ∧ (e'.2.length : Int) = e.2.length + b.2) := by
 unfold Lt at hk
 split at hk
 ·rename_i h1
  obtain ⟨rfl, ht⟩ := B3c hk
  refine ⟨fun x hx => ?_, fun hb => ?_⟩
  ·rcases List.mem_cons.mp hx with rfl | hx
   ·have : size (vE 0) = 1 := by decide +kernel
    omega
   ·obtain ⟨y, hy, rfl⟩ := List.mem_map.mp hx
    rw [Oi (ht y hy)]; exact h y hy
  ·simp only [List.length_cons, List.length_map]; omega
 ·split at hk
  ·rename_i h1 h2
   obtain ⟨rfl, ht, _⟩ := B6b hk
   refine ⟨fun x hx => ?_, fun hb => ?_⟩
   ·obtain ⟨y, hy, rfl⟩ := List.mem_map.mp hx
    rw [Oi (ht y hy)]; exact h y hy
   ·simp only [List.length_cons, List.length_map]; omega
  ·injection hk with hk
   subst hk
   exact ⟨h, fun hb => by omega⟩
theorem St.A4p {B : C2} {Γ : List Fact} {Ms : List B2} {w : World} (c : Nat) (hs : St B Γ Ms w) : St B (Ir [] (Option.none, c) :: Γ) Ms w := hs.add ⟨⟨Nat.zero_le _, by simp, fun h => absurd h D7⟩, fun x hx => by cases hx⟩
def A5f (t : T) (e : Ev) (b : Int × Int) : Aw T := (Lt e b).bind fun e' => D8 Ck t e'
theorem C4n {t : T} {e : Ev} {b : Int × Int} {x : Int} (h : A5f t e b = .bad x) : x ≠ 0 := by
 unfold A5f at h
 rcases Bg h with h | ⟨e', _, h⟩
 ·exact Wq h
 ·exact Pv _ h
theorem Q1 {r : Aw T} (hn : ∀ e, r = .bad e → e ≠ 0) (h : (Kt r).1 = 0) : r = .ok (Kt r).2 := by
 cases r with
 | ok u => rfl
 | bad e => exact absurd h (hn e rfl)
theorem C2b {r : Aw T} (h : (Kt r).1 ≠ 0) : r = .bad (Kt r).1 := by
 cases r with
 | ok u => exact absurd rfl h
 | bad e => rfl
theorem Ys {t : T} {e : Ev} {b : Int × Int} (h : (Fu t e b).1 = 0) : A5f t e b = .ok (Fu t e b).2 := Q1 (fun _ h => C4n h) h
theorem B1x {t : T} {e : Ev} {b : Int × Int} (h : (Fu t e b).1 ≠ 0) : A5f t e b = .bad (Fu t e b).1 := C2b h
theorem A9b {k : Int} {ts : List T} {i : Nat} {l : List T} {e : Ev} {u : T} (hi : i < ts.length) (hl : Dt Ck k 0 (ts.take i) e = .ok l) (h : A5f (ts.getD i t0) e (binds k i) = .ok u) : Dt Ck k 0 (ts.take (i + 1)) e = .ok (l ++ [u]) := by
 obtain ⟨e', h1, h2⟩ := Aw.Ac h
 exact T0 hi hl h1 h2
theorem A5w {t : T} {e : Ev} {x : Int} {p : Int × List Cl} {i : Nat} {l : List T} (ho : Ck.own e t.kind t.n t.name t.r = .ok (.inr p)) (hi : i < t.kids.length) (hl : Dt Ck t.kind 0 (t.kids.take i) e = .ok l) (h : A5f (t.kids.getD i t0) e (binds t.kind i) = .bad x) : D8 Ck t e = .bad x := by
 rcases Bg h with h | ⟨e', h1, h2⟩
 ·have h1 : Dt Ck t.kind 0 (t.kids.take (i + 1)) e = .bad x := by
   rw [Ah (d := t0) hi, Lz, hl]
   simp only [Aw.bind, List.length_take, Nat.zero_add, Nat.min_eq_left (Nat.le_of_lt hi)]
   rw [show Ck.Mz e (binds t.kind i) = .bad x from h]
  have h2 := S5 (m := t.kids.drop (i + 1)) h1
  rw [List.take_append_drop] at h2
  exact X7 ho h2
 ·exact Qr ho hi hl h1 h2
theorem C1n {k : Int} {ts : List T} {i : Nat} {l : List T} {e : Ev} {u : T} (hi : i < ts.length) (hl : D4 Ck k (ts.take i) e = .ok l) (h : A5f (ts.getD i t0) e (0, more k) = .ok u) : D4 Ck k (ts.take (i + 1)) e = .ok (l ++ [u]) := by
 obtain ⟨e', h1, h2⟩ := Aw.Ac h
 exact T1 hi hl h1 h2
theorem B5v {k : Int} {ts : List T} {i : Nat} {l : List T} {e : Ev} {x : Int} (hi : i < ts.length) (hl : D4 Ck k (ts.take i) e = .ok l) (h : A5f (ts.getD i t0) e (0, more k) = .bad x) : D4 Ck k ts e = .bad x := by
 rcases Bg h with h | ⟨e', h1, h2⟩
 ·have h1 : D4 Ck k (ts.take (i + 1)) e = .bad x := by
   rw [Ah (d := t0) hi, Ly, hl]
   simp only [Aw.bind]
   rw [show Ck.Mz e (0, more k) = .bad x from h]
  have h2 := S4 (m := ts.drop (i + 1)) h1
  rwa [List.take_append_drop] at h2
 ·exact Qs hi hl h1 h2
theorem Qt {C : Type} {A : Tr C} {k : Int} {c : C} {ss : List Br} {s : Nat} {bs : List Br} {e : Int} (hs : s < ss.length) (hb : Dd A k (ss.take s) c = .ok bs) (hf : A.B4 c (ss.getD s Bd).B4 = .bad e ∨ ∃ f', A.B4 c (ss.getD s Bd).B4 = .ok (some f') ∧ D4 A k (ss.getD s Bd).kids c = .bad e) : Dd A k ss c = .bad e := by
 have h1 : Dd A k (ss.take (s + 1)) c = .bad e := by
  rw [Ah (d := Bd) hs, Jy, hb]
  simp only [Aw.bind]
  rcases hf with hf | ⟨f', hf, h2⟩
  ·rw [hf]
  ·rw [hf]; simp only; rw [h2]
 have h2 := Od (m := ss.drop (s + 1)) h1
 rwa [List.take_append_drop] at h2
def Mx (t : T) (e : Ev) (g : List Cl) (ks : List T) : Int × T := Kt ((Dd Ck t.kind t.sys e).bind fun bs => .ok (.mk t.kind 0 t.name g ks bs))
theorem A6b {t : T} {e : Ev} {g : List Cl} {ks : List T} {x : Int} (h : Dd Ck t.kind t.sys e = .bad x) : Mx t e g ks = (x, t0) := by unfold Mx; rw [h]; rfl
theorem C5j {t : T} {e : Ev} {g : List Cl} {ks : List T} {bs : List Br} (h : Dd Ck t.kind t.sys e = .ok bs) : Mx t e g ks = (0, .mk t.kind 0 t.name g ks bs) := by unfold Mx; rw [h]; rfl
theorem A1t {e : Ev} {f : List Cl} (h : (Hv true e.2 f).1 ≠ 0) : Ck.B4 e f = .bad (Hv true e.2 f).1 := by show (elR _).bind _ = _; rw [B2g h]; rfl
theorem Xm {e : Ev} {f : List Cl} (h : (Hv true e.2 f).1 = 0) (h2 : (Hv true e.2 f).2.length = 0) : Ck.B4 e f = .ok none := by show (elR _).bind _ = _; rw [A9d h]; show Aw.ok (if _ then _ else _) = _; rw [if_pos h2]
theorem Xl {e : Ev} {f : List Cl} (h : (Hv true e.2 f).1 = 0) (h2 : (Hv true e.2 f).2.length ≠ 0) : Ck.B4 e f = .ok (some (Hv true e.2 f).2) := by show (elR _).bind _ = _; rw [A9d h]; show Aw.ok (if _ then _ else _) = _; rw [if_neg h2]
theorem A5v {e : Ev} {k n : Int} {nm : ByteArray} {r : List Cl} (hk : k ≠ 1) (h : (Hv (decide (k = 14)) e.2 r).1 ≠ 0) : Ck.own e k n nm r = .bad (Hv (decide (k = 14)) e.2 r).1 := by
 show (if k = 1 then _ else _) = _
 rw [if_neg hk, B2g h]; rfl
theorem A9a {e : Ev} {k n : Int} {nm : ByteArray} {r : List Cl} (hk : k ≠ 1) (h : (Hv (decide (k = 14)) e.2 r).1 = 0) : Ck.own e k n nm r = .ok (.inr (0, (Hv (decide (k = 14)) e.2 r).2)) := by
 show (if k = 1 then _ else _) = _
 rw [if_neg hk, A9d h]; rfl
theorem C4z {t : T} {e : Ev} {g : List Cl} {ks : List T} (ho : Ck.own e t.kind t.n t.name t.r = .ok (.inr (0, g))) (hl : Dt Ck t.kind 0 t.kids e = .ok ks) : Es t e = Mx t e g ks := by
 show Kt _ = Kt _
 rw [Hs, ho]; simp only [Aw.bind]; rw [hl]
theorem C3b {t : T} {v : Int} {d : Nat} (hf : Hl t) (hm : J9 t v d) : ∀ c, c ∈ t.r → ∀ j, (c.pos ||| c.neg).testBit j = true → j < d := by
 obtain ⟨⟨m1, m2, m3⟩, m4, m5⟩ := Ll.mp hm
 have h1 := (Ol.mp hf).1
 by_cases hk : t.kind = 1
 ·rw [(A5t hf hk).1]
  intro c hc
  cases hc
 ·have hr : A0i (decide (t.kind = 14)) t.r := by
   unfold A0i
   by_cases h14 : t.kind = 14
   ·rw [if_pos (by simp [h14])]; exact (Vw h1).1 h14
   ·rw [if_neg (by simp [h14])]; exact (Vw h1).2
  exact Uc A2 (A1s (B3o hr)) m3
theorem C1k {t : T} {v : Int} {d : Nat} {s : Nat} (hf : Hl t) (hm : J9 t v d) (hs : s < t.sys.length) : ∀ c, c ∈ (t.sys.getD s Bd).B4 → ∀ j, (c.pos ||| c.neg).testBit j = true → j < d := by
 obtain ⟨⟨m1, m2, m3⟩, m4, m5⟩ := Ll.mp hm
 have hb := A9 (d := Bd) hs
 exact Uc A2 (A1s (Iq (B5s hf hb)).1) (m4 _ hb)
def J5 (ts : List T) (D n : Nat) : Prop := ts.length + n ≤ 10000000 ∧ D + n ≤ 10000000 ∧ ∀ x, x ∈ ts → size x ≤ 1000000000
theorem J5.less {ts : List T} {D n m : Nat} (h : J5 ts D n) (hm : m ≤ n) : J5 ts D m := ⟨by have := h.1; omega, by have := h.2.1; omega, h.2.2⟩
theorem C0o {e e' : Ev} {b : Int × Int} {n : Nat} (hb : bnd b) (h : J5 e.1 e.2.length (n + 1)) (hk : Lt e b = .ok e') : J5 e'.1 e'.2.length n := by
 obtain ⟨h1, h2⟩ := Wp (n := 1000000000) A2 h.2.2 hk
 obtain ⟨h3, h4⟩ := h2 hb
 have h5 := h.1
 have h6 := h.2.1
 have h7 := hb.1
 have h8 := hb.2.1
 exact ⟨by omega, by omega, h1⟩
theorem C4k {e e' : Ev} {b : Int × Int} {t : T} (hb : bnd b) (hm : J9 t (e.1.length + b.1) (e.2.length + b.2)) {n : Nat} (h : J5 e.1 e.2.length n) (hk : Lt e b = .ok e') : J9 t e'.1.length e'.2.length := by
 obtain ⟨h1, h2⟩ := Wp (n := 1000000000) A2 h.2.2 hk
 obtain ⟨h3, h4⟩ := h2 hb
 rw [h3, h4]; exact hm
theorem B9w {t : T} {v d : Int} (hm : J9 t v d) {i : Nat} (hi : i < t.kids.length) : J9 (t.kids.getD i t0) (v + (binds t.kind i).1) (d + (binds t.kind i).2) := (Ll.mp hm).2.2 _ (List.mem_of_getElem? (Fx t i hi))
theorem B9v {t : T} {v d : Int} (hm : J9 t v d) {s k : Nat} (hs : s < t.sys.length) (hk : k < (t.sys.getD s Bd).kids.length) : J9 ((t.sys.getD s Bd).kids.getD k t0) (v + 0) (d + more t.kind) := (Ll.mp hm).2.2 _ (List.mem_of_getElem? (Gp t s k hs hk))
theorem A9q (k i : Int) : bnd ((binds k i).1, (binds k i).2) := B6k k i
theorem A3o {l : List CP} {ts : List T} {n : Nat} (h : J5 ts l.length n) : J5 (ts, l.map (·.1)).1 (ts, l.map (·.1)).2.length n := by
 show J5 ts (l.map (·.1)).length n
 rw [List.length_map]; exact h
theorem B9x {l : List CP} {ts : List T} {n : Nat} (h : J5 (ts, l.map (·.1)).1 (ts, l.map (·.1)).2.length n) : J5 ts l.length n := by
 have h : J5 ts (l.map (·.1)).length n := h
 rwa [List.length_map] at h
section
variable {P : Program} [Tab P] {f : FuncId} {fn : Func} {B : C2} {n : Fz} {K : List Item} {σ : Nat → Value} {Γ : List Fact} {Ms : List B2} {X : Type} {val : X → Value} {N : X → List Fact} {Ms1 : X → List B2}
end
def kpT (e : Int) (t : T) : T := if e = 0 then t else t0
def kpS (e : Int) (s : SH) : SH := if e = 0 then s else (none, 0)
theorem D0a {e : Int} {t : T} (h : e = 0) : kpT e t = t := if_pos h
theorem C4j {e : Int} {t : T} (h : e ≠ 0) : kpT e t = t0 := if_neg h
theorem A8p {e : Int} {t : SH} (h : e = 0) : kpS e t = t := if_pos h
theorem A1g {e : Int} {t : SH} (h : e ≠ 0) : kpS e t = (none, 0) := if_neg h
theorem St.kp {B : C2} {Γ : List Fact} {Ms : List B2} {w : World} (e : Int) {t : T} {a b c : SH} (hs : St B Γ Ms w) (h : RT t a b c ∈ Γ) : St B (RT (kpT e t) (kpS e a) (kpS e b) (kpS e c) :: Γ) Ms w := by
 by_cases he : e = 0
 ·rw [D0a he, A8p he, A8p he, A8p he]
  exact hs.less (by
   intro F hF
   rcases List.mem_cons.mp hF with rfl | hF
   ·exact h
   ·exact hF)
 ·rw [C4j he, A1g he, A1g he, A1g he]
  exact hs.Jv
section
variable {tn : Bool} {pn : Nat} {P : Program} [Tab P] {f : FuncId} {R : Ending → World → Prop} {B : C2} {n : Fz} {K : List Item} {ops : Array Oper} {fin l : List Nat} {σ : Nat → Value} {Γ : List Fact} {Ms : List B2} {i : Nat} {dst : Option Tmp} {ty : TypeId} {x y z : Operand}
end
section
variable {M : Nat}
theorem C0p {e e' : Ev} {b : Int × Int} (hM : 1 ≤ M) (h : ∀ x, x ∈ e.1 → size x ≤ M) (hk : Ck.Mz e b = .ok e') : ∀ x, x ∈ e'.1 → size x ≤ M := (Wp hM h hk).1
mutual
theorem Wc : ∀ {t u : T} {e : Ev}, 1 ≤ M → (∀ x, x ∈ e.1 → size x ≤ M) → D8 Ck t e = .ok u → size u ≤ size t * M
 | .mk k n nm r ks ss, u, e, hM, he, hu => by
  rw [Hs] at hu
  simp only [T.kind, T.n, T.name, T.r, T.kids, T.sys] at hu
  obtain ⟨o, h9, hu⟩ := Aw.Ac hu
  cases o with
  | inl v =>
   injection hu with hu
   subst hu
   simp only [Ck] at h9
   split at h9
   ·injection h9 with h9
    injection h9 with h9
    subst h9
    have h1 : size (e.1.getD n.toNat t0) ≤ M := by
     by_cases hl : n.toNat < e.1.length
     ·exact he _ (A9 hl)
     ·rw [List.getD_eq_getElem?_getD, List.getElem?_eq_none A2]
      show size t0 ≤ M
      rw [B0p]; exact hM
    exact Nat.le_trans h1 (Nat.le_mul_of_pos_left M (size_pos' _))
   ·obtain ⟨g, _, h9⟩ := Aw.Ac h9
    injection h9 with h9
    cases h9
  | inr p =>
   obtain ⟨ks', h10, hu⟩ := Aw.Ac hu
   obtain ⟨ss', h11, hu⟩ := Aw.Ac hu
   injection hu with hu
   subst hu
   rw [Ur, Ur (.mk k n nm r ks ss)]
   simp only [T.kids, T.sys]
   have h1 := Z1 hM he h10
   have h2 := Sr hM he h11
   rw [Nat.add_mul, Nat.add_mul]
   omega
theorem Z1 {k : Int} : ∀ {ts us : List T} {i : Nat} {e : Ev}, 1 ≤ M → (∀ x, x ∈ e.1 → size x ≤ M) → Dt Ck k i ts e = .ok us → Ld us ≤ Ld ts * M
 | [], us, i, e, hM, he, hu => by rw [Gm] at hu; injection hu with hu; subst hu; exact Nat.zero_le _
 | t :: ts, us, i, e, hM, he, hu => by
  rw [Fh] at hu
  obtain ⟨c', h1, hu⟩ := Aw.Ac hu
  obtain ⟨t', h2, hu⟩ := Aw.Ac hu
  obtain ⟨ts', h3, hu⟩ := Aw.Ac hu
  injection hu with hu
  subst hu
  have h4 := Wc hM (C0p hM he h1) h2
  have h5 := Z1 hM he h3
  simp only [Ld]
  rw [Nat.add_mul]
  omega
theorem Z0 {k : Int} : ∀ {ts us : List T} {e : Ev}, 1 ≤ M → (∀ x, x ∈ e.1 → size x ≤ M) → D4 Ck k ts e = .ok us → Ld us ≤ Ld ts * M
 | [], us, e, hM, he, hu => by rw [Gl] at hu; injection hu with hu; subst hu; exact Nat.zero_le _
 | t :: ts, us, e, hM, he, hu => by
  rw [Fg] at hu
  obtain ⟨c', h1, hu⟩ := Aw.Ac hu
  obtain ⟨t', h2, hu⟩ := Aw.Ac hu
  obtain ⟨ts', h3, hu⟩ := Aw.Ac hu
  injection hu with hu
  subst hu
  have h4 := Wc hM (C0p hM he h1) h2
  have h5 := Z0 hM he h3
  simp only [Ld]
  rw [Nat.add_mul]
  omega
theorem Sr {k : Int} : ∀ {bs us : List Br} {e : Ev}, 1 ≤ M → (∀ x, x ∈ e.1 → size x ≤ M) → Dd Ck k bs e = .ok us → T8 us ≤ T8 bs * M
 | [], us, e, hM, he, hu => by rw [Fv] at hu; injection hu with hu; subst hu; exact Nat.zero_le _
 | .mk f ks :: bs, us, e, hM, he, hu => by
  rw [Em] at hu
  simp only [Br.B4, Br.kids] at hu
  obtain ⟨o, h5, hu⟩ := Aw.Ac hu
  cases o with
  | none => have h6 := Sr hM he hu; simp only [T8]; rw [Nat.add_mul]; omega
  | some g =>
   obtain ⟨ks', h7, hu⟩ := Aw.Ac hu
   obtain ⟨bs', h8, hu⟩ := Aw.Ac hu
   injection hu with hu
   subst hu
   have h1 := Z0 hM he h7
   have h2 := Sr hM he h8
   simp only [T8, Br.kids]
   rw [Nat.add_mul]
   omega
end
end
theorem B5x {t : T} {e : Ev} {M : Nat} (hM : 1 ≤ M) (he : ∀ x, x ∈ e.1 → size x ≤ M) : size (Es t e).2 ≤ size t * M := by
 unfold Es
 cases h : D8 Ck t e with
 | ok u => exact Wc hM he h
 | bad x => show size t0 ≤ _; rw [B0p]; exact Nat.le_trans hM (Nat.le_mul_of_pos_left M (size_pos' t))
theorem C2d {α : Type} {p : α → Bool} {l : List α} {d : α} {i : Nat} (hi : i < l.length) (h : p (l.getD i d) = true) : l.any p = true := List.any_eq_true.mpr ⟨_, A9 hi, h⟩
theorem any_none {α : Type} {p : α → Bool} {l : List α} {d : α} (h : ∀ j, j < l.length → p (l.getD j d) = false) : l.any p = false := by
 rw [List.any_eq_false]
 intro x hx
 obtain ⟨j, hj, rfl⟩ := List.mem_iff_getElem.mp hx
 have := h j hj
 rw [Ca (d := d) hj] at this
 rw [this]; decide
theorem C0v {α : Type} {p : α → Bool} {l : List α} {d : α} {i : Nat} (hi : i < l.length) (h : p (l.getD i d) = true) : decide (0 ≤ (i : Int)) = l.any p := by rw [C2d hi h]; exact decide_eq_true A2
theorem A5i {α : Type} {p : α → Bool} {l : List α} {d : α} (h : ∀ j, j < l.length → p (l.getD j d) = false) : decide (0 ≤ (-1 : Int)) = l.any p := by rw [any_none h]; decide
theorem B7m (ts : List T) (l : List CP) : (!(l.any fun x => !Ab x.1)) = De (ts, l.map (·.1)) := by
 unfold De
 show _ = (l.map (·.1)).all fun f => Ab f
 rw [List.all_map, Bool.eq_iff_iff]
 simp [List.any_eq_false]
theorem A1o (ts : List T) (l : List CP) : (decide ((ts.length : Int) ≤ 200) && decide ((l.length : Int) ≤ 24)) = Fc (ts, l.map (·.1)) := by
 unfold Fc
 show _ = (decide (ts.length ≤ 200) && decide ((l.map (·.1)).length ≤ 24))
 rw [List.length_map, Bool.eq_iff_iff]
 simp only [Bool.and_eq_true, decide_eq_true_eq]
 omega
theorem A5s {ts : List T} {l : List CP} (h : Fc (ts, l.map (·.1)) = true) : ts.length ≤ 200 ∧ l.length ≤ 24 := by
 rw [← A1o] at h
 simp only [Bool.and_eq_true, decide_eq_true_eq] at h
 omega
theorem B9y {f : List Cl} {n : Nat} (h : n ≤ 24) : J0 f n = decide (Bj f / 2 ^ (min n 32) = 0) := by unfold J0; rw [Nat.min_eq_left A2]
theorem A9v {t : T} {e : Ev} (h : Fc e = false) : Az t e = (2, t0) := by unfold Az; rw [if_pos h]
theorem A6h {t : T} {e : Ev} (h : Fc e = true) (h2 : Bz t e.1.length e.2.length ≠ 0) : Az t e = (Bz t e.1.length e.2.length, t0) := by unfold Az; rw [if_neg (by rw [h]; decide), if_pos h2]
theorem A6g {t : T} {e : Ev} (h : Fc e = true) (h2 : Bz t e.1.length e.2.length = 0) (h3 : (De e && e.1.all fun x => decide (B0 x = 0)) = false) : Az t e = (2, t0) := by unfold Az; rw [if_neg (by rw [h]; decide), if_neg (by rw [h2]; decide), if_pos h3]
theorem Tu {ts : List T} : (ts.all fun x => decide (B0 x = 0)) = !(ts.any fun t => decide (B0 t ≠ 0)) := by
 rw [Bool.eq_iff_iff]
 simp [List.any_eq_false]
theorem B6l {t : T} {e : Ev} (h : Fc e = true) (h2 : Bz t e.1.length e.2.length = 0) (h3 : (De e && e.1.all fun x => decide (B0 x = 0)) = true) (h4 : (Es t e).1 ≠ 0) : Az t e = ((Es t e).1, t0) := by
 unfold Az
 rw [if_neg (by rw [h]; decide), if_neg (by rw [h2]; decide), if_neg (by rw [h3]; decide)]
 unfold Es at h4 ⊢
 cases hq : D8 Ck t e with
 | ok u => rw [hq] at h4; exact absurd rfl h4
 | bad x => rfl
theorem A6i {t : T} {e : Ev} (h : Fc e = true) (h2 : Bz t e.1.length e.2.length = 0) (h3 : (De e && e.1.all fun x => decide (B0 x = 0)) = true) (h4 : (Es t e).1 = 0) (h5 : B0 (Es t e).2 ≠ 0) : Az t e = (B0 (Es t e).2, t0) := by
 have hz := Q1 (r := D8 Ck t e) (fun x hx => Pv t hx) h4
 unfold Az
 rw [if_neg (by rw [h]; decide), if_neg (by rw [h2]; decide), if_neg (by rw [h3]; decide), hz]
 exact if_pos h5
theorem C2c {t : T} {e : Ev} (h : Fc e = true) (h2 : Bz t e.1.length e.2.length = 0) (h3 : (De e && e.1.all fun x => decide (B0 x = 0)) = true) (h4 : (Es t e).1 = 0) (h5 : B0 (Es t e).2 = 0) : Az t e = (0, (Es t e).2) := by
 have hz := Q1 (r := D8 Ck t e) (fun x hx => Pv t hx) h4
 unfold Az
 rw [if_neg (by rw [h]; decide), if_neg (by rw [h2]; decide), if_neg (by rw [h3]; decide), hz]
 exact if_neg (by rw [show (Kt (D8 Ck t e)).2 = (Es t e).2 from rfl, h5]; decide)
theorem A9u {t : T} {ts : List T} {l : List CP} (h : Fc (ts, l.map (·.1)) = true) (h2 : Bz t ts.length l.length = 0) (h3 : ∀ x, x ∈ ts → B0 x = 0) (hz : size t ≤ 20000) : J5 ts l.length (size t) ∧ Hl t ∧ J9 t ts.length l.length := by
 have hl := A5s h
 obtain ⟨_, _, _, hf, hm⟩ := (Ya (t := t) (v := ts.length) (d := l.length) A2 A2).mp h2
 exact ⟨⟨by omega, by omega, fun x hx => by have := Ko (h3 x hx); omega⟩, hf, hm⟩
theorem A7p {t : T} {v d : Int} (hv : 0 ≤ v) (hb : v ≤ 1000000000000) (h : Bz t v d = 0) : size t ≤ 20000 := (Pn.mp ((Ya hv hb).mp h).2.2.1).2
theorem Og {e : Ev} {v d : Int} (h : v < 0 ∨ d < 0 ∨ 24 < d ∨ Fc e = false ∨ De e = false ∨ (e.2.all fun f => J0 f d.toNat) = false) : Cf e v d = 2 := by
 unfold Cf
 rw [if_pos]
 rcases h with h | h | h | h | h | h <;> simp [h]
theorem Uy {e : Ev} {v d : Int} (hv : ¬ v < 0) (hd : ¬ d < 0) (h24 : ¬ 24 < d) (hf : Fc e = true) (hs : De e = true) (hl : (e.2.all fun f => J0 f d.toNat) = true) : Cf e v d = (H6 (fun t => (Bz t v d, ())) e.1).1 := by
 unfold Cf
 rw [if_neg]
 simp only [Bool.not_eq_true, Bool.or_eq_false_iff]
 refine ⟨⟨⟨⟨⟨decide_eq_false hv, decide_eq_false hd⟩, decide_eq_false h24⟩, ?_⟩, ?_⟩, ?_⟩
 ·rw [hf]; rfl
 ·rw [hs]; rfl
 ·rw [hl]; rfl
theorem Yb {e : Ev} {v d : Int} {k : Nat} (hq : Cf e v d = (H6 (fun t => (Bz t v d, ())) e.1).1) (hk : k < e.1.length) (h : ∀ j, j < k → Bz (e.1.getD j t0) v d = 0) (h2 : Bz (e.1.getD k t0) v d ≠ 0) : Cf e v d = Bz (e.1.getD k t0) v d := by
 rw [hq, Vm (d := t0) hk h h2]
theorem Uz {e : Ev} {v d : Int} {k : Nat} (hq : Cf e v d = (H6 (fun t => (Bz t v d, ())) e.1).1) (hk : k = e.1.length) (h : ∀ j, j < k → Bz (e.1.getD j t0) v d = 0) : Cf e v d = 0 := by
 rw [hq, A1a (A2f (g := fun t => (Bz t v d, ())) (d := t0) hk h)]
theorem W8 {ts : List T} {l : List CP} {i : Nat} {d : Nat} (hi : i < l.length) (h : Ab (l.getD i Bv).1 = false ∨ J0 (l.getD i Bv).1 d = false) : De (ts, l.map (·.1)) = false ∨ ((l.map (·.1)).all fun f => J0 f d) = false := by
 have hm : (l.getD i Bv).1 ∈ l.map (·.1) := List.mem_map.mpr ⟨_, A9 hi, rfl⟩
 rcases h with h | h
 ·left
  cases hq : De (ts, l.map (·.1)) with
  | false => rfl
  | true => have := List.all_eq_true.mp hq _ hm; rw [h] at this; cases this
 ·right
  cases hq : ((l.map (·.1)).all fun f => J0 f d) with
  | false => rfl
  | true => have := List.all_eq_true.mp hq _ hm; rw [h] at this; cases this
theorem B5t {ts : List T} {l : List CP} {d : Nat} (h : ∀ j, j < l.length → Ab (l.getD j Bv).1 = true ∧ J0 (l.getD j Bv).1 d = true) : De (ts, l.map (·.1)) = true ∧ ((l.map (·.1)).all fun f => J0 f d) = true := by
 have key : ∀ f, f ∈ l.map (·.1) → Ab f = true ∧ J0 f d = true := fun f hf => by
  obtain ⟨p, hp, rfl⟩ := List.mem_map.mp hf
  obtain ⟨j, hj, rfl⟩ := List.mem_iff_getElem.mp hp
  have := h j hj
  rwa [Ca (d := Bv) hj] at this
 exact ⟨List.all_eq_true.mpr fun f hf => (key f hf).1, List.all_eq_true.mpr fun f hf => (key f hf).2⟩
theorem B1z {v d : Int} (h : v < 0 ∨ 200 < v ∨ d < 0 ∨ 24 < d) : idE v d = (2, [], []) := by unfold idE; rw [if_pos h]
theorem A5k (n : Nat) : idV (n + 1) = idV n ++ [T.mk 1 (n : Int) ⟨#[]⟩ [] [] []] := by unfold idV; rw [List.range_succ, List.map_append]; rfl
theorem A5l (n : Nat) : idD (n + 1) = idD n ++ [[U1 (n : Int)]] := by unfold idD; rw [List.range_succ, List.map_append]; rfl
theorem C5g {n : Nat} (h : n < 24) : Py (n : Int) = (0, [U1 (n : Int)]) := by
 unfold Py
 rw [if_pos (by unfold Nz; simp; omega)]
 rfl
def Ip (ts : List T) (l : List CP) : Bool := decide (30 < ts.length) || decide (30 < l.length) || (l.any fun x => decide (6 < x.1.length)) || decide (150 < H8 (.mk 0 0 ⟨#[]⟩ [] ts []))
theorem C0z {ts : List T} {l : List CP} (h : Ip ts l = false) : ts.length ≤ 30 ∧ l.length ≤ 30 ∧ (∀ x, x ∈ l → x.1.length ≤ 6) ∧ H8 (.mk 0 0 ⟨#[]⟩ [] ts []) ≤ 150 := by
 unfold Ip at h
 simp only [Bool.or_eq_false_iff, decide_eq_false_iff_not] at h
 obtain ⟨⟨⟨h1, h2⟩, h3⟩, h4⟩ := h
 refine ⟨by omega, by omega, fun x hx => ?_, by omega⟩
 have := List.any_eq_false.mp h3 x hx
 simp only [decide_eq_true_eq] at this
 omega
theorem B5k {ts : List T} {l : List CP} (h : 30 < ts.length ∨ 30 < l.length) : Ip ts l = true := by
 unfold Ip
 rcases h with h | h <;> simp [h]
theorem A8v {ts : List T} {l : List CP} {i : Nat} (hi : i < l.length) (h : 6 < (l.getD i Bv).1.length) : Ip ts l = true := by
 unfold Ip
 rw [C2d (p := fun x : CP => decide (6 < x.1.length)) (d := Bv) hi (decide_eq_true h)]
 simp
theorem A8w {ts : List T} {l : List CP} (h1 : ts.length ≤ 30) (h2 : l.length ≤ 30) (h3 : ∀ j, j < l.length → (l.getD j Bv).1.length ≤ 6) : Ip ts l = decide (150 < H8 (.mk 0 0 ⟨#[]⟩ [] ts [])) := by
 unfold Ip
 rw [any_none (p := fun x : CP => decide (6 < x.1.length)) (d := Bv) (fun j hj => decide_eq_false (by have := h3 j hj; omega)), decide_eq_false (show ¬ 30 < ts.length by omega), decide_eq_false (show ¬ 30 < l.length by omega)]
 simp
theorem A0g {f : List Cl} {n : Nat} (hn : n ≤ 24) (h : (!Ab f || decide (Bj f / 2 ^ (min n 32) ≠ 0)) = false) : Ab f = true ∧ J0 f n = true := by
 rw [B9y hn]
 simpa using h
theorem A0h {f : List Cl} {n : Nat} (hn : n ≤ 24) (h : (!Ab f || decide (Bj f / 2 ^ (min n 32) ≠ 0)) = true) : Ab f = false ∨ J0 f n = false := by
 rw [B9y hn]
 simpa using h
def sE : T := My 19 [] []
theorem C4x : Az (aE (vE 0) (vE 1)) ([uE, sE], []) = (0, aE uE sE) := by decide +kernel
theorem C4w : Az (lE (aE (vE 0) (vE 1))) ([vE 3], []) = (0, lE (aE (vE 0) (vE 4))) := by decide +kernel
theorem Rr : size (aE (vE 0) (vE 1)) ≤ 100 ∧ size (lE (aE (vE 0) (vE 1))) ≤ 100 ∧ (∀ t, t ∈ [uE, sE] → size t ≤ 100) ∧ ∀ t, t ∈ [vE 3] → size t ≤ 100 := by decide +kernel
theorem A3g : ∀ {l : List Nat} {x : Nat}, x ∈ l → x ≤ l.sum
 | [], x, h => by cases h
 | a :: l, x, h => by
  rw [List.sum_cons]
  rcases List.mem_cons.mp h with rfl | h
  ·omega
  ·have := A3g h; omega
theorem C1w {ts : List T} {x : T} (hx : x ∈ ts) : H8 x ≤ H8 (.mk 0 0 ⟨#[]⟩ [] ts []) := by
 have h := A3g (l := ts.map H8) (x := H8 x) (List.mem_map.mpr ⟨x, hx, rfl⟩)
 have e := Ru (.mk 0 0 ⟨#[]⟩ [] ts [])
 simp only [T.kids, T.sys, T.r, T.name] at e
 omega
theorem A5m {ts : List T} {l : List CP} (h : Ip ts l = false) : ∀ t, t ∈ ts → H8 t ≤ 150 := fun t ht => Nat.le_trans (C1w ht) (C0z h).2.2.2
theorem Tl {ts : List T} {l : List CP} (h : Ip ts l = false) : ∀ t, t ∈ ts → size t ≤ 1152921504606846 := fun t ht => by
 have h1 := A5m h t ht
 have h2 := Zz t
 omega
theorem B4u {f : List Cl} {n : Nat} : J0 f n = true ↔ ∀ i, n ≤ i → (Bj f).testBit i = false := by
 unfold J0
 rw [decide_eq_true_eq, Nat.div_eq_zero_iff_lt (Nat.two_pow_pos n)]
 constructor
 ·intro h i hi
  exact Nat.testBit_lt_two_pow (Nat.lt_of_lt_of_le h (Nat.pow_le_pow_right A2 hi))
 ·intro h
  exact Nat.lt_pow_two_of_testBit _ h
theorem A8o {l : List Int} (hp : l.Pairwise (· < ·)) {x : Int} (hx : x ∈ l) : x ≤ l.getD (l.length - 1) 0 := by
 obtain ⟨j, hj, rfl⟩ := List.mem_iff_getElem.mp hx
 rw [Ca (d := (0 : Int)) (show l.length - 1 < l.length by omega)]
 rcases Nat.lt_or_ge j (l.length - 1) with h | h
 ·exact Int.le_of_lt (List.pairwise_iff_getElem.mp hp j (l.length - 1) hj A2 h)
 ·have : j = l.length - 1 := by omega
  subst this
  exact Int.le_refl _
theorem D3y {f : List Cl} {d : Int} (hd : 0 ≤ d ∧ d ≤ 24) : (decide (((Ag (Bj f)).length : Int) = 0) || decide ((Ag (Bj f)).getD ((Ag (Bj f)).length - 1) 0 < d)) = J0 f d.toNat := by
 rw [Bool.eq_iff_iff, B4u, Bool.or_eq_true, decide_eq_true_eq, decide_eq_true_eq]
 constructor
 ·intro h i hi
  cases hq : (Bj f).testBit i with
  | false => rfl
  | true =>
   exfalso
   have h24 := (Yz.mp hq).1
   have hm : (i : Int) ∈ Ag (Bj f) := (B4y h24).mpr hq
   rcases h with h | h
   ·have := List.length_pos_of_mem hm; omega
   ·have := A8o (C0c _) hm; omega
 ·intro h
  rcases Nat.eq_zero_or_pos (Ag (Bj f)).length with h0 | h0
  ·left; omega
  ·right
   have hl : (Ag (Bj f)).length - 1 < (Ag (Bj f)).length := by omega
   have hm := A9 (d := (0 : Int)) hl
   obtain ⟨m1, m2, m3⟩ := Jp.mp hm
   rcases Int.lt_or_le ((Ag (Bj f)).getD ((Ag (Bj f)).length - 1) 0) d with h2 | h2
   ·exact h2
   ·exfalso
    have := h _ (show d.toNat ≤ ((Ag (Bj f)).getD ((Ag (Bj f)).length - 1) 0).toNat by omega)
    rw [m3] at this; cases this
theorem A6y {ts : List T} {l : List CP} {i : Nat} (hi : i < l.length) (h : Ab (l.getD i Bv).1 = false) : De (ts, l.map (·.1)) = false := by
 rcases W8 (ts := ts) (d := 0) hi (.inl h) with h | h
 ·exact h
 ·cases hq : De (ts, l.map (·.1)) with
  | false => rfl
  | true =>
   have hm : (l.getD i Bv).1 ∈ l.map (·.1) := List.mem_map.mpr ⟨_, A9 hi, rfl⟩
   have := List.all_eq_true.mp hq _ hm
   simp_all
theorem A3h {ts : List T} {l : List CP} (h : ∀ j, j < l.length → Ab (l.getD j Bv).1 = true) : De (ts, l.map (·.1)) = true := by
 unfold De
 rw [List.all_eq_true]
 intro f hf
 obtain ⟨p, hp, rfl⟩ := List.mem_map.mp hf
 obtain ⟨j, hj, rfl⟩ := List.mem_iff_getElem.mp hp
 have := h j hj
 rwa [Ca (d := Bv) hj] at this
theorem B9z {ts : List T} {l : List CP} {i d : Nat} (hi : i < l.length) (h : J0 (l.getD i Bv).1 d = false) : ((l.map (·.1)).all fun f => J0 f d) = false := by
 cases hq : ((l.map (·.1)).all fun f => J0 f d) with
 | false => rfl
 | true =>
  have hm : (l.getD i Bv).1 ∈ l.map (·.1) := List.mem_map.mpr ⟨_, A9 hi, rfl⟩
  have := List.all_eq_true.mp hq _ hm
  rw [h] at this; cases this
theorem B4v {l : List CP} {d : Nat} (h : ∀ j, j < l.length → J0 (l.getD j Bv).1 d = true) : ((l.map (·.1)).all fun f => J0 f d) = true := by
 rw [List.all_eq_true]
 intro f hf
 obtain ⟨p, hp, rfl⟩ := List.mem_map.mp hf
 obtain ⟨j, hj, rfl⟩ := List.mem_iff_getElem.mp hp
 have := h j hj
 rwa [Ca (d := Bv) hj] at this
theorem A3k {i : Int} (h : 0 ≤ i ∧ i < 24) : (⟨Ky [i], 0⟩ : Cl) = U1 i := by
 unfold U1
 congr 1
 unfold Ky Fl
 rw [if_pos h]
 simp
end Go.Hy
namespace Go.Hy
open Go.RowKit Go.Shelf
theorem B3q {F : Fence} {n : Nat} {P : Program} {α : Type} {g : Operand} {ps : Array Tmp} {assign body : Code} {Q : Exit → Act → World → Prop} {a : Act} {w : World}
  (hro : F.round = none) (h1 : 1 ≤ n) {gf : Nat} {lb : Array Value} (hg : a.eval g = .func (.func gf) #[] lb) (hFg : F.fn gf) (eg : ∀ args w, (callFunc gf args).run P w = .ok (.enter gf args) w)
  {encs : α → Array Value} (hps : ∀ x, (encs x).size = ps.size) (I : List α → World → Prop) (Px : List α → α → Prop) (Kp : World → World → Prop)
  (hIp : ∀ (pre : List α) (A : World) (l : Nat) (o o0 : Obj), I pre A → A.heap[l]? = some o0 → o0.isCells = false → w.heap.size ≤ l → I pre (A.putObj l o)) (hIa : ∀ (pre : List α) (A : World) (o : Obj), I pre A → w.heap.size ≤ A.heap.size → I pre (A.alloc o)) (h0 : I [] w)
  (hKt : ∀ {A B C : World}, Kp A B → Kp B C → Kp A C) (hKp : ∀ (A : World) (l : Nat) (o o0 : Obj), A.heap[l]? = some o0 → o0.isCells = false → w.heap.size ≤ l → Kp A (A.putObj l o))
  (xs : List α)
  (hit : ∀ (l : Nat) (J : List α → World → Prop) (W1 : World), (∀ pre W, J pre W → I pre W) →
   (∀ pre A B, J pre A → I pre B → (∀ (k : Nat) (o : Obj), A.heap[k]? = some o → o.isCells = false → B.heap[k]? = some o) → J pre B) →
   (∀ pre x W, J pre W → Px pre x → YieldAt F (n - 1 - 1) P l (encs x) W fun e W' => e = .returned (.bool true) ∧ J (pre ++ [x]) W' ∧ Kp W W') → J [] W1 → (∀ (k : Nat), k < w.heap.size → W1.heap[k]? = w.heap[k]?) →
   CallsIn F (n - 1) P gf (#[.func (.yield l) #[] #[]] ++ lb) W1 fun e W' => (∃ v, e = .returned v) ∧ J xs W')
  (a₁ : α → Act)
  (hassign : ∀ (l : Nat) (x : α) (W : World) (K : Act → World → Prop), K (a₁ x) W →
   assign.wpIn (F.inRound l) (n - 1 - 1) P (Exit.then K (fun _ _ _ => False)) { tmps := (ps.zip (encs x)).foldl (fun t (p, v) => t.setIfInBounds p v) a.tmps, defers := [] } W)
  (hbody : ∀ (l : Nat) (pre : List α) (x : α) (W : World), I pre W → Px pre x →
   body.wpIn (F.inRound l) (n - 1 - 1) P (fun e _ W' => e = .normal ∧ KeepsOthers W W' ∧ Kp W W' ∧ I (pre ++ [x]) W') (a₁ x) W)
  (hdone : ∀ (D : Nat) (W : World), w.heap.size ≤ D → I xs W → W.heap[D]? = some (.deferred (some [])) → Q .normal { a with defers := { target := .collected D, args := #[] } :: a.defers } W) :
  (Code.rangeFunc g ps assign body).wpIn F n P Q a w := by
 refine wpIn_rangeFunc ?_
 intro fn hfn
 rw [hro]
 obtain ⟨rec, hrec⟩ : ∃ rec : LoopState → Option Code → Loop, rec = fun st pe => { state := st, pending := pe, fn, tmps := a.tmps, params := ps, assign, body, defers := w.heap.size } := ⟨_, rfl⟩
 obtain ⟨W1, hW1⟩ : ∃ W1, (w.alloc (.deferred (some []))).alloc (.loop (rec .ready none)) = W1 := ⟨_, rfl⟩
 have hL1 : W1.heap[w.heap.size + 1]? = some (.loop (rec .ready none)) := by
  rw [← hW1]; have := World.alloc_heap_new (w.alloc (.deferred (some []))) (.loop (rec .ready none)); rwa [World.size_alloc] at this
 have hK1 : W1.heap[w.heap.size]? = some (.deferred (some [])) := by
  rw [← hW1]; exact (Below.heap_alloc _ _ _ D7).trans (World.alloc_heap_new w _)
 have hI1 : I [] W1 := by rw [← hW1]; exact hIa _ _ _ (hIa _ _ _ h0 (Nat.le_refl _)) D7
 refine ⟨w.heap.size + 1, [{ target := .collected w.heap.size, args := #[] }], W1, { target := .fn (.func gf) lb, args := #[.func (.yield (w.heap.size + 1)) #[] #[]] }, W1, gf,
  #[.func (.yield (w.heap.size + 1)) #[] #[]] ++ lb, W1, ?_, ?_, ?_, ?_, fun _ => h1, ?_⟩
 ·rw [← hW1, hrec]; exact run_enterLoop_outer _ _ _ _ _
 ·simp only [resolve, hg]
  simp [go_sem]
 ·intro f' hf'; simp [Target.leads] at hf'; subst hf'; exact hFg
 ·simp [invoke, go_sem, eg]
 ·refine (hit (w.heap.size + 1) (fun pre W => I pre W ∧ W.heap[w.heap.size + 1]? = some (.loop (rec .ready none)) ∧ W.heap[w.heap.size]? = some (.deferred (some []))) W1
   (fun pre W h => h.1) (fun pre A B hA hB hk => ⟨hB, hk _ _ hA.2.1 rfl, hk _ _ hA.2.2 rfl⟩) ?_ ⟨hI1, hL1, hK1⟩ (fun k hk => by rw [← hW1]; exact (Below.heap_alloc _ _ _ (by simp; omega)).trans (Below.heap_alloc _ _ _ hk))).mono ?_
  ·rintro pre x W ⟨hi, hl, hk⟩ hpx
   have hlt : w.heap.size + 1 < W.heap.size := (Array.getElem?_eq_some_iff.1 hl).1
   have hy := run_yield (P := P) (args := encs x) hl (by rw [hrec]; exact hps x)
   rw [hrec] at hy
   refine ⟨fn, _, assign, body, hy, roundIn_of_wpIn hfn (hassign _ x W _ ⟨_, run_beginRound hl (by rw [hrec]), ?_⟩)⟩
   have hl2 : (W.putObj (w.heap.size + 1) (.loop { rec .ready none with state := .busy })).heap[w.heap.size + 1]? = some (.loop { rec .ready none with state := .busy }) := World.putObj_heap_same hlt
   have hk2 : (W.putObj (w.heap.size + 1) (.loop { rec .ready none with state := .busy })).heap[w.heap.size]? = some (.deferred (some [])) := (World.putObj_heap_other A2).trans hk
   refine wpIn_mono (hbody _ pre x _ (hIp _ _ _ _ _ hi hl rfl A2) hpx) ?_
   rintro e a3 W3 ⟨rfl, hk3, hkp3, hi3⟩
   have hl3 := hk3.same _ _ hl2 rfl
   have hend := run_endRound (P := P) none hl3
   rw [hrec] at hl3 hend
   refine ⟨_, _, hend, rfl, ⟨hIp _ _ _ _ _ hi3 hl3 rfl A2, ?_, ?_⟩, hKt (hKt (hKp _ _ _ _ hl rfl A2) hkp3) (hKp _ _ _ _ hl3 rfl A2)⟩
   ·rw [hrec]; exact World.putObj_heap_same (Array.getElem?_eq_some_iff.1 hl3).1
   ·exact (World.putObj_heap_other A2).trans (hk3.same _ _ hk2 rfl)
  ·rintro e W2 ⟨⟨v, rfl⟩, hi, hl, hk⟩
   exact ⟨none, _, by have := run_endLoop (P := P) hl (by rw [hrec]; simp); rw [hrec] at this; exact this, hdone _ _ (Nat.le_refl _) (hIp _ _ _ _ _ hi hl rfl A2) ((World.putObj_heap_other A2).trans hk)⟩
end Go.Hy
namespace Go.Hy
open Go.Proofs Go.Proofs.Tryz
set_option maxRecDepth 100000
theorem A7i (n : Int) (h0 : 0 ≤ n) (hn : n ≤ 40) : Spec prog 218 #[iv (n)] [] [] (fun _ : Unit => iv (((2 ^ n.toNat : Nat) : Int))) (fun _ => []) (fun _ => []) := by
 refine Cp ntmps218 fun B hB => ?_
 refine B9 ?_; refine B9 ?_; refine I8 ?_; refine Aj (X := Nat) (fun s_ => (s_ : Int) ≤ n) (fun s_ => [(0, iv (n)), (3, iv (((2 ^ s_ : Nat) : Int))), (4, iv ((s_ : Int)))]) (fun s_ G_ => G_) (fun s_ => []) (fun s_ => n.toNat - s_) (0) (by simpa using h0) (by exact Cm) ?_ ?_
 ·exact fun w hs => hs
 ·intro i base0 hi0 next0; have hpw : 2 ^ i ≤ 2 ^ 40 := Nat.pow_le_pow_right A2 A2; have hpz : (0 : Int) ≤ ((2 ^ i : Nat) : Int) := Int.natCast_nonneg _; refine Ja ?_; refine Tv ?_; refine Bu (decide ((i : Int) < n)) (fun h7 c7 => ?_) (fun h7 c7 => ?_)
  ·refine Hn ?_; refine Dy ?_; refine q0 rfl (D3j ?_); refine C9 ?_; refine Hq ?_; refine A1 (fun w hs => ?_) (next0 (i + 1) _ A2 A2 ⟨rfl, (by (conv => lhs; whnf); rw [Nat.pow_succ]; push_cast; rfl), rfl, trivial⟩); exact (hs.l9)
  ·have he : n.toNat = i := by omega
   refine D2 ?_; refine Gt ?_; refine Ad f_ rfl A4 () (by rw [he]) (fun w hs => hs.none)
theorem B7x (s : Nat) (i : Int) (hs : s < 4294967296) : Spec prog 210 #[.int .u32 ((s : Nat) : Int), iv (i)] [] [] (fun _ : Unit => .bool ((H7 s i))) (fun _ => []) (fun _ => []) := by
 refine Cp ntmps210 fun B hB => ?_
 refine B9 ?_; refine Ec ?_; refine Aq ([(4, .bool (((decide (0 ≤ i)) && (decide (i < 24))) && (decide (((s / 2 ^ i.toNat % 2 : Nat) : Int) = 1))))]) (fun hK => ?_) (fun base => ?_)
 ·refine Dy ?_; refine X2 ?_; refine En ?_; refine I6 rfl (decide (0 ≤ i)) (fun hg7 g7 => ?_) (fun hg7 g7 => ?_)
  ·refine Qd ?_; refine Ix ?_; refine I6 rfl (decide (i < 24)) (fun hg11 g11 => ?_) (fun hg11 g11 => ?_)
   ·refine Qa ?_; refine qT rfl rfl rfl (A4n ?_); refine D1 ?_; refine qT rfl rfl rfl (A0 call218 (A7i i Hx Hx) (fun x15 => ?_)); refine qT rfl rfl rfl (C8r ?_ (a := s) (b := 2 ^ i.toNat)); refine qT rfl rfl rfl (C8q ?_ (a := s / 2 ^ i.toNat) (b := 2)); refine qT rfl rfl rfl (Yi ?_ (a := ((s / 2 ^ i.toNat % 2 : Nat) : Int)) (b := 1)); refine Eg ?_; exact hK _ ⟨(by first | rfl | ((conv => lhs; whnf); first | (simp_all [Mc]; done) | (simp_all [Mc]; omega))), trivial⟩
   ·refine Iw ?_; refine P2 ?_; exact hK _ ⟨(by first | rfl | ((conv => lhs; whnf); first | (simp_all [Mc]; done) | (simp_all [Mc]; omega))), trivial⟩
  ·refine U3 ?_; refine Eo ?_; refine Iw ?_; refine Ew ?_; refine Gu ?_; exact hK _ ⟨(by first | rfl | ((conv => lhs; whnf); first | (simp_all [Mc]; done) | (simp_all [Mc]; omega))), trivial⟩
 ·refine Ad f_ rfl A4 () (congrArg Value.bool (by rw [Mc, show decide (((s / 2 ^ i.toNat % 2 : Nat) : Int) = 1) = decide (s / 2 ^ i.toNat % 2 = 1) from decide_eq_decide.mpr A2])) (fun w hs => hs.none)
theorem p24 : (2 ^ (24 : Int).toNat : Nat) = 16777216 := by decide +kernel
theorem B0q (s : Nat) (hs : s < 4294967296) : Spec prog 259 #[.int .u32 ((s : Nat) : Int)] [] [] (fun _ : Unit => .bool ((decide (s < 16777216)))) (fun _ => []) (fun _ => []) := by
 refine Cp ntmps259 fun B hB => ?_
 refine Kb ?_; refine q0 rfl (A4n ?_); refine q0 rfl (A0 call218 (A7i 24 Hx Hx) (fun x5 => ?_)); refine C7a ?_; refine C9 ?_; refine Ad f_ rfl A4 () (congrArg Value.bool (decide_eq_decide.mpr (by rw [p24]; omega))) (fun w hs => hs.none)
theorem C5z (s : Nat) (hs : s < 4294967296) : Spec prog 126 #[.int .u32 ((s : Nat) : Int)] [] [] (fun x : SH => sl x (Ag s).length) (fun x : SH => [IL (Ag s) x]) (fun x : SH => []) := by
 refine Cp ntmps126 fun B hB => ?_
 refine B9 ?_; refine B9 ?_; refine I8 ?_; refine Aj (X := Nat × SH) (fun s_ => s_.1 ≤ 24) (fun s_ => [(0, .int .u32 ((s : Nat) : Int)), (3, sl s_.2 ((C1 s s_.1).length)), (4, iv ((s_.1 : Int)))]) (fun s_ G_ => G_) (fun s_ => [Am 1 3 s_.2 ((C1 s s_.1).length) (G4 (C1 s s_.1))]) (fun s_ => 24 - s_.1) (0, (none, 0)) A2 (by exact Cm) ?_ ?_
 ·exact fun w hs => (hs.C7 1 3)
 ·intro ⟨i, a⟩ base0 hi0 next0; dsimp only at hi0 next0 ⊢; have hln := Gh s i; refine Hc ?_; refine Tv ?_; refine Bu (decide ((i : Int) < 24)) (fun h6 c6 => ?_) (fun h6 c6 => ?_)
  ·refine Hn ?_; refine Hg ?_; refine q0 rfl (A0 call210 (B7x s (i : Int) Hx) (fun x11 => ?_)); refine Ig ?_; refine Bu ((H7 s (i : Int))) (fun h11 c11 => ?_) (fun h11 c11 => ?_)
   ·refine Qc ?_; refine q0 rfl (D0 fun b14 => ?_); refine q0 rfl (E0 (fun a15 => ?_) (a := a) (n' := (C1 s i).length)); refine An (fun w hs => ((hs.perm Ao).drop).C5x) ?_; refine C9 ?_; refine Hq ?_; have hnx : C1 s (i + 1) = C1 s i ++ [(i : Int)] := by rw [J1, if_pos]; simp [H7] at c11; exact c11.2
    refine A1 (fun w hs => ?_) (next0 (i + 1, a15) _ A2 (by (try simp only); omega) ⟨rfl, (by (conv => lhs; whnf); simp [sl, hnx]), rfl, trivial⟩); rw [hnx]; simpa using (hs.l9)
   ·refine Hf ?_; have hnx : C1 s (i + 1) = C1 s i := by rw [J1, if_neg]; simp [H7] at c11; simp [c11 A2]
    refine A1 (fun w hs => ?_) (next0 (i + 1, a) _ A2 (by (try simp only); omega) ⟨rfl, (by (conv => lhs; whnf); simp [sl, hnx]), rfl, trivial⟩); rw [hnx]; exact (hs.l9)
  ·refine D2 ?_; refine Gt ?_; have he : i = 24 := by omega
   subst he; refine Ad f_ rfl A4 a rfl (fun w hs => (hs.Ng hB rfl rfl (by unfold reach; omega) (fun c hc => by have := Ln hc; unfold Ap; omega)).l8)
theorem D2u (l : List Int) (a_l : SH) (hl : l.length ≤ 64) (hx : ∀ x, x ∈ l → 0 ≤ x ∧ x < 24) : Spec prog 131 #[sl a_l (l.length)] [IL l a_l] [] (fun _ : Unit => .int .u32 (((Ky l) : Nat) : Int)) (fun _ => []) (fun _ => []) := by
 refine Cp ntmps131 fun B hB => ?_
 refine G0 (l := l) (a := a_l) (fun hl1 hA1 hU1 => ?_); refine B9 ?_; refine B9 ?_; refine I8 ?_; refine Aj (X := Nat) (fun s_ => s_ ≤ l.length) (fun s_ => [(0, sl a_l (l.length)), (3, iv (((Qx l s_ : Nat) : Int))), (4, iv ((s_ : Int)))]) (fun s_ G_ => G_) (fun s_ => []) (fun s_ => l.length - s_) (0) A2 (by exact ⟨rfl, (by rw [A7b]; rfl), rfl, trivial⟩) ?_ ?_
 ·exact fun w hs => hs
 ·intro i base0 hi0 next0; have hst := B7o hx i; refine Ja ?_; refine Nc ?_; refine Bu (decide ((i : Int) < (l.length : Int))) (fun h8 c8 => ?_) (fun h8 c8 => ?_)
  ·have hgx := hx _ (A9 (d := 0) (show i < l.length by omega)); have hg2 : 2 ^ (l.getD i 0).toNat ≤ 2 ^ 24 := Nat.pow_le_pow_right A2 A2; have hpz : (0 : Int) ≤ ((2 ^ (l.getD i 0).toNat : Nat) : Int) := Int.natCast_nonneg _; refine Hn ?_; refine Dy ?_; refine F7 ?_; obtain ⟨bk2, o2, hav2⟩ := hA1 A2; refine q0 rfl (Cq ?_ (j := i)); refine A2p ?_; refine q0 rfl (A0 call218 (A7i (l.getD i 0) Hx Hx) (fun x16 => ?_)); refine Wz ?_; refine Hq ?_; refine A1 (fun w hs => ?_) (next0 (i + 1) _ A2 A2 ⟨rfl, (by (conv => lhs; whnf); rw [A7c A2]; push_cast; rfl), rfl, trivial⟩); exact (hs.l9)
  ·have he : i = l.length := by omega
   subst he; rw [B3m] at hst ⊢; refine D2 ?_; refine Et ?_; refine q0 rfl (B9n ?_ (a := Ky l)); refine C9 ?_; refine Ad f_ rfl A4 () (by first | rfl | (simp_all; done) | (simp_all; omega)) (fun w hs => hs.none)
end Go.Hy
